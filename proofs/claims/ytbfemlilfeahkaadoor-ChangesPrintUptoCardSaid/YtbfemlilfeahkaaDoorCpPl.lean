/- Plain lemmas on the models: the law's model answers true. -/
import Derived.Test.YtbfemlilfeahkaaDoorCpMd
set_option linter.unusedSimpArgs false
set_option linter.unusedVariables false
namespace Go.Md
open Go.Vc
section
variable {Z A S α : Type}
theorem call_some (x : A) (k : A → Option Z) : call (some x) k = k x := rfl
theorem callG_some (g : Bool) (x d : A) (k : A → Option Z) : callG g (some x) d k = k (bif g then x else d) := by cases g <;> rfl
theorem callG_true (a : Option A) (d : A) (k : A → Option Z) : callG true a d k = call a k := rfl
theorem callG_false (a : Option A) (d : A) (k : A → Option Z) : callG false a d k = k d := rfl
theorem chk_true {p : Prop} [Decidable p] (h : p) (m : Option Z) : chk p m = m := if_pos h
theorem jp_eq (F : S → Option Z) (m : (S → Option Z) → Option Z) : jp F m = m F := rfl
theorem jpC (F : S → Option Z) (c : Bool) (x y : S) : jp F (fun k => bif c then k x else k y) = F (bif c then x else y) := by cases c <;> rfl
theorem idxS_eq {s : Str} {i : Nat} (h : i < s.length) (k : Int → Option Z) : idxS s i k = k (s[i].toNat : Int) := by
  unfold idxS
  simp [h]
theorem idx_eq {l : List α} {i : Nat} (h : i < l.length) (k : α → Option Z) : idx l i k = k l[i] := by
  unfold idx
  simp [h]
/-- A loop that hands back z at the first that is not as it should be. -/
theorem forL_all {f : Nat → α → Unit → (Unit → Option Z) → (Unit → Option Z) → Option Z} {z : Z} (q : α → Bool) (hf : ∀ i x nx k, f i x () nx k = bif q x then nx () else some z) (k : Unit → Option Z) :
    ∀ (l : List α) (i : Nat), forL l i f () k = bif l.all q then k () else some z
  | [], i => rfl
  | x :: l, i => by
    unfold forL
    rw [hf, forL_all q hf k l (i + 1), List.all_cons]
    cases q x <;> rfl
/-- What a loop over a list comes to, told by what is left. -/
theorem forL_run {f : Nat → α → S → (S → Option Z) → (S → Option Z) → Option Z} {k : S → Option Z} (inv : Nat → List α → S → Prop) (R : Nat → List α → S → Option Z)
    (h0 : ∀ i s, inv i [] s → k s = R i [] s) (h1 : ∀ i x l s nx, inv i (x :: l) s → (∀ s', inv (i + 1) l s' → nx s' = R (i + 1) l s') → f i x s nx k = R i (x :: l) s) :
    ∀ (l : List α) (i : Nat) (s : S), inv i l s → forL l i f s k = R i l s
  | [], i, s, h => h0 i s h
  | x :: l, i, s, h => h1 i x l s _ h fun s' hs => forL_run inv R h0 h1 l (i + 1) s' hs
/-- What a loop comes to, told by its state; mu counts the rounds. -/
theorem loopN_run {f : S → (S → Option Z) → (S → Option Z) → Option Z} {k : S → Option Z} (inv : S → Prop) (mu : S → Nat) (R : S → Option Z)
    (h : ∀ s nx, inv s → (∀ s', inv s' → mu s' < mu s → nx s' = R s') → f s nx k = R s) : ∀ (N : Nat) (s : S), inv s → mu s < N → loopN N f s k = R s
  | 0, s, _, hm => by omega
  | N + 1, s, hi, hm => by
    unfold loopN
    exact h s _ hi fun s' hs' hlt => loopN_run inv mu R h N s' hs' (by omega)
theorem condS (b : Bool) (x y : Z) : (bif b then some x else some y) = some (bif b then x else y) := by cases b <;> rfl
theorem condN (c : Bool) (x y : Z) : (bif c then x else y) = bif !c then y else x := by cases c <;> rfl
end
theorem wrapS {n : Int} (h1 : -9223372036854775808 ≤ n) (h2 : n ≤ 9223372036854775807) : IntKind.i64.wrap n = n := wrap64 h1 h2
theorem wrap1 (i : Nat) (h : i < 9223372036854775807) : IntKind.i64.wrap ((i : Int) + 1) = ((i + 1 : Nat) : Int) := by rw [wrapS (by omega) (by omega)]; rfl
theorem wrapm1 (i : Nat) (h0 : 0 < i) (h : i < 9223372036854775807) : IntKind.i64.wrap ((i : Int) - 1) = ((i - 1 : Nat) : Int) := by rw [wrapS (by omega) (by omega)]; omega
theorem fuel_ge : 1099511627776 ≤ Fuel := Nat.le_refl _
/-! ### strings at one byte -/
/-- Ahead of the first c, behind it, and whether there is one. -/
def cutAt (c : UInt8) : Str → Str × Str × Bool
  | [] => ([], [], false)
  | b :: s => if b = c then ([], s, true) else (b :: (cutAt c s).1, (cutAt c s).2.1, (cutAt c s).2.2)
def splitAt (c : UInt8) : Str → List Str
  | [] => [[]]
  | b :: s => if b = c then [] :: splitAt c s else match splitAt c s with
    | [] => [[b]]
    | h :: t => (b :: h) :: t
theorem cutAt_none {c : UInt8} : ∀ {s : Str}, c ∉ s → cutAt c s = (s, [], false)
  | [], _ => rfl
  | b :: s, h => by
    have hb : b ≠ c := fun e => h (by simp [e])
    have ht := cutAt_none (s := s) (c := c) (fun h' => h (List.mem_cons_of_mem _ h'))
    simp only [cutAt, if_neg hb, ht]
theorem cutAt_some {c : UInt8} : ∀ {s : Str}, c ∈ s → (cutAt c s).2.2 = true ∧ s = (cutAt c s).1 ++ c :: (cutAt c s).2.1 ∧ c ∉ (cutAt c s).1
  | [], h => by cases h
  | b :: s, h => by
    by_cases hb : b = c
    · subst hb; simp [cutAt]
    · have hm : c ∈ s := by
        rcases List.mem_cons.1 h with rfl | h
        · exact absurd rfl hb
        · exact h
      obtain ⟨h1, h2, h3⟩ := cutAt_some hm
      simp only [cutAt, if_neg hb]
      refine ⟨h1, by rw [List.cons_append, ← h2], ?_⟩
      intro h'
      rcases List.mem_cons.1 h' with rfl | h'
      · exact hb rfl
      · exact h3 h'
theorem cutAt_app {c : UInt8} : ∀ {a b : Str}, c ∉ a → cutAt c (a ++ c :: b) = (a, b, true)
  | [], b, _ => by simp [cutAt]
  | x :: a, b, h => by
    have hx : x ≠ c := fun e => h (by simp [e])
    have := cutAt_app (a := a) (b := b) (c := c) (fun h' => h (List.mem_cons_of_mem _ h'))
    simp only [List.cons_append, cutAt, if_neg hx, this]
theorem splitAt_ne (c : UInt8) (s : Str) : splitAt c s ≠ [] := by
  cases s with
  | nil => simp [splitAt]
  | cons b s =>
    simp only [splitAt]
    split
    · simp
    · split <;> simp
theorem splitAt_none {c : UInt8} : ∀ {s : Str}, c ∉ s → splitAt c s = [s]
  | [], _ => rfl
  | b :: s, h => by
    have hb : b ≠ c := fun e => h (by simp [e])
    have ht := splitAt_none (s := s) (c := c) (fun h' => h (List.mem_cons_of_mem _ h'))
    simp only [splitAt, if_neg hb, ht]
theorem splitAt_app {c : UInt8} : ∀ {a b : Str}, c ∉ a → splitAt c (a ++ c :: b) = a :: splitAt c b
  | [], b, _ => by simp [splitAt]
  | x :: a, b, h => by
    have hx : x ≠ c := fun e => h (by simp [e])
    have := splitAt_app (a := a) (b := b) (c := c) (fun h' => h (List.mem_cons_of_mem _ h'))
    simp only [List.cons_append, splitAt, if_neg hx, this]
theorem splitAt_cut (c : UInt8) (s : Str) : splitAt c s = if (cutAt c s).2.2 = true then (cutAt c s).1 :: splitAt c (cutAt c s).2.1 else [s] := by
  by_cases h : c ∈ s
  · obtain ⟨h1, h2, h3⟩ := cutAt_some h
    rw [if_pos h1]
    conv => lhs; rw [h2]
    exact splitAt_app h3
  · rw [cutAt_none h]
    simpa using splitAt_none h
theorem cutAt_len (c : UInt8) (s : Str) : (cutAt c s).1.length ≤ s.length ∧ (cutAt c s).2.1.length ≤ s.length ∧ ((cutAt c s).2.2 = true → (cutAt c s).1.length + (cutAt c s).2.1.length + 1 = s.length) := by
  by_cases h : c ∈ s
  · obtain ⟨h1, h2, h3⟩ := cutAt_some h
    have := congrArg List.length h2
    simp only [List.length_append, List.length_cons] at this
    exact ⟨by omega, by omega, fun _ => by omega⟩
  · rw [cutAt_none h]; simp
theorem splitAt_mem_len {c : UInt8} : ∀ {s : Str} {p : Str}, p ∈ splitAt c s → p.length ≤ s.length
  | [], p, h => by simp [splitAt] at h; simp [h]
  | b :: s, p, h => by
    simp only [splitAt] at h
    split at h
    · rcases List.mem_cons.1 h with rfl | h
      · simp
      · have := splitAt_mem_len h; simp; omega
    · split at h
      · rename_i e; exact absurd e (splitAt_ne c s)
      · rename_i a t e
        rcases List.mem_cons.1 h with rfl | h
        · have := splitAt_mem_len (s := s) (p := a) (c := c) (by rw [e]; simp)
          simp; omega
        · have := splitAt_mem_len (s := s) (p := p) (c := c) (by rw [e]; simp [h])
          simp; omega
theorem splitAt_length (c : UInt8) (s : Str) : (splitAt c s).length = s.count c + 1 := by
  induction s with
  | nil => rfl
  | cons b s ih =>
    simp only [splitAt]
    split
    · rename_i e; subst e; simp [ih]
    · rename_i e
      rw [List.count_cons_of_ne (by simpa using e)]
      split
      · rename_i e'; exact absurd e' (splitAt_ne c s)
      · rename_i e'; rw [e'] at ih; simpa using ih
def ixb (s : Str) (c : UInt8) : Int := Lib.indexByte s c
theorem ixb_cut (c : UInt8) : ∀ s : Str, ixb s c = if c ∈ s then ((cutAt c s).1.length : Int) else -1
  | [] => rfl
  | b :: s => by
    have ih := ixb_cut c s
    unfold ixb at *
    unfold Lib.indexByte
    by_cases hb : b = c
    · subst hb; simp [cutAt]
    · rw [if_neg (by simpa using hb), ih]
      simp only [cutAt, if_neg hb, List.mem_cons, Ne.symm hb, false_or]
      by_cases h : c ∈ s
      · rw [if_pos h, if_pos h]
        simp
      · rw [if_neg h, if_neg h]; rfl
theorem ixb_none {c : UInt8} {s : Str} (h : c ∉ s) : ixb s c = -1 := by rw [ixb_cut, if_neg h]
theorem ixb_some {c : UInt8} {s : Str} (h : c ∈ s) : ixb s c = ((cutAt c s).1.length : Int) := by rw [ixb_cut, if_pos h]
theorem cutAt_take {c : UInt8} {s : Str} (h : c ∈ s) : s.take (cutAt c s).1.length = (cutAt c s).1 ∧ s.drop ((cutAt c s).1.length + 1) = (cutAt c s).2.1 := by
  obtain ⟨h1, h2, h3⟩ := cutAt_some h
  generalize cutAt c s = q at h2 ⊢
  subst h2
  constructor
  · exact List.take_left' rfl
  · rw [← List.drop_drop, List.drop_left' rfl]; rfl
theorem len1 (c : UInt8) : ((([c] : Str).length : Nat) : Int) = 1 := rfl
theorem wrapc1 (i : Nat) (c : UInt8) (h : i < 9223372036854775807) : IntKind.i64.wrap ((i : Int) + ((([c] : Str).length : Nat) : Int)) = ((i + 1 : Nat) : Int) := wrap1 i h
theorem indexByte_u8 (s : Str) (c : UInt8) : ixByte s (c.toNat : Int) = ixb s c := by
  unfold ixByte ixb
  congr 1
  simp
theorem slite_eq (s : Str) (c : UInt8) : internal_stringslite_Index s [c] = some (ixb s c) := by
  unfold internal_stringslite_Index internal_stringslite_IndexByte
  by_cases h : s = [c]
  · subst h
    simp [ixb, Lib.indexByte]
  · have : (decide (([c] : Str) = s)) = false := by simpa using fun e => h e.symm
    simp only [this, len1, show decide ((1 : Int) = 0) = false from rfl, show decide ((1 : Int) = 1) = true from rfl, decide_true, Bool.or_false, cond_false, cond_true]
    show idxS [c] ((0 : Nat) : Int) _ = _
    rw [idxS_eq (by simp)]
    simp only [call_some, List.getElem_cons_zero, indexByte_u8]
theorem index_eq (s : Str) (c : UInt8) : strings_Index s [c] = some (ixb s c) := by
  unfold strings_Index
  rw [slite_eq]; rfl
theorem count_eq (s : Str) (c : UInt8) : strings_Count s [c] = some ((s.count c : Nat) : Int) := by
  unfold strings_Count
  simp only [len1, show decide ((1 : Int) = 0) = false from rfl, show decide ((1 : Int) = 1) = true from rfl, decide_true, cond_false, cond_true]
  show idxS [c] ((0 : Nat) : Int) _ = _
  rw [idxS_eq (by simp)]
  unfold cntByte
  simp
theorem cut_eq (s : Str) (c : UInt8) (hs : s.length ≤ 1099511627776) : strings_Cut s [c] = some (cutAt c s) := by
  unfold strings_Cut internal_stringslite_Cut
  rw [slite_eq]
  simp only [call_some]
  by_cases h : c ∈ s
  · obtain ⟨h1, h2, h3⟩ := cutAt_some h
    have hl := (cutAt_len c s).2.2 h1
    obtain ⟨t1, t2⟩ := cutAt_take h
    rw [ixb_some h, decide_eq_true (by omega), cond_true]
    rw [chk_true (by omega)]
    simp only [wrapc1 _ c (show (cutAt c s).1.length < 9223372036854775807 by omega)]
    rw [chk_true (by omega)]
    simp only [Int.toNat_natCast, t1, t2, call_some]
    rw [show true = (cutAt c s).2.2 from h1.symm]
  · rw [ixb_none h]
    simp only [show decide ((0 : Int) ≤ -1) = false from rfl, cond_false, call_some]
    rw [cutAt_none h]
theorem drop_cut_count {c : UInt8} {s : Str} (h : c ∈ s) : (cutAt c s).2.1.count c + 1 = s.count c := by
  obtain ⟨h1, h2, h3⟩ := cutAt_some h
  conv => rhs; rw [h2]
  rw [List.count_append, List.count_eq_zero_of_not_mem h3, List.count_cons_self]
  omega
theorem set_take {α : Type} (l : List α) (i : Nat) (x : α) (h : i < l.length) : (l.set i x).take (i + 1) = l.take i ++ [x] := by
  rw [List.take_succ_eq_append_getElem (by simpa using h)]
  simp [List.take_set_of_le]
theorem split_eq (s : Str) (c : UInt8) (hs : s.length ≤ 17179869184) : strings_Split s [c] = some (splitAt c s) := by
  have hcl := List.count_le_length (a := c) (l := s)
  have key : strings_genSplit s [c] 0 (-1) = some (splitAt c s) := by
    unfold strings_genSplit
    obtain ⟨N, hN⟩ : ∃ N, Fuel = N := ⟨_, rfl⟩
    have hN2 : 1099511627776 ≤ N := hN ▸ fuel_ge
    rw [hN]
    clear hN
    have hmin : min ((s.count c + 1 : Nat) : Int) ((s.length + 1 : Nat) : Int) = ((s.count c + 1 : Nat) : Int) := by omega
    simp only [jp_eq, count_eq, call_some, show decide ((-1 : Int) = 0) = false from rfl, show decide ((-1 : Int) < 0) = true from rfl, show decide (([c] : Str) = []) = false from rfl, cond_true, cond_false]
    simp only [wrap1 (s.count c) (by omega), wrap1 s.length (by omega), hmin]
    rw [chk_true (by omega)]
    have hw : IntKind.i64.wrap (((s.count c + 1 : Nat) : Int) - 1) = ((s.count c : Nat) : Int) := by rw [wrapS (by omega) (by omega)]; omega
    simp only [hw, Int.toNat_natCast]
    refine (loopN_run (S := Str × Int × List Str) (fun st => ∃ i : Nat, st.2.1 = i ∧ st.2.2.length = s.count c + 1 ∧ st.1.length ≤ s.length ∧ i + st.1.count c = s.count c) (fun st => s.count c - st.2.1.toNat)
      (fun st => some (st.2.2.take st.2.1.toNat ++ splitAt c st.1)) ?_ N _ ⟨0, rfl, by simp, Nat.le_refl _, by simp⟩ (by simp only; omega)).trans ?_
    · rintro ⟨t, i', o⟩ nx ⟨i, rfl, ho, ht, hc⟩ hnx
      simp only at ho ht hc hnx ⊢
      simp only [index_eq, call_some]
      by_cases hi : i < s.count c
      · have hmem : c ∈ t := by rw [← List.count_pos_iff]; omega
        obtain ⟨h1, h2, h3⟩ := cutAt_some hmem
        have hl := (cutAt_len c t).2.2 h1
        obtain ⟨t1, t2⟩ := cutAt_take hmem
        rw [decide_eq_true (by omega), cond_true, ixb_some hmem, decide_eq_false (by omega), cond_false]
        have hw3 : IntKind.i64.wrap (((cutAt c t).1.length : Int) + 0) = ((cutAt c t).1.length : Int) := by rw [wrapS (by omega) (by omega)]; omega
        have hw4 : IntKind.i64.wrap (((cutAt c t).1.length : Int) + (([c] : Str).length : Int)) = (((cutAt c t).1.length + 1 : Nat) : Int) := wrap1 _ (by omega)
        simp only [hw3, hw4, wrap1 i (by omega), Int.toNat_natCast]
        rw [chk_true (by omega), chk_true (by omega), chk_true (by omega)]
        have hdc := drop_cut_count hmem
        simp only [t1, t2]
        rw [hnx _ ⟨i + 1, rfl, by simpa using ho, by simp only; omega, by simp only; omega⟩ (by simp only [Int.toNat_natCast]; omega)]
        simp only [Int.toNat_natCast]
        rw [set_take o i _ (by omega)]
        congr 1
        rw [show splitAt c t = (cutAt c t).1 :: splitAt c (cutAt c t).2.1 by rw [splitAt_cut, if_pos h1]]
        simp
      · obtain rfl : i = s.count c := by omega
        rw [decide_eq_false (by omega), cond_false]
        have hmem : c ∉ t := by rw [← List.count_pos_iff]; omega
        rw [chk_true (by omega), wrap1 _ (by omega)]
        simp only [Int.toNat_natCast, List.length_set]
        rw [chk_true (by omega), set_take o _ _ (by omega), splitAt_none hmem]
    · simp
  unfold strings_Split
  rw [key]; rfl
def HX : Str := [48, 49, 50, 51, 52, 53, 54, 55, 56, 57, 97, 98, 99, 100, 101, 102]
def hexb (n : Nat) : UInt8 := HX.getD n 0
def isEsc (c : UInt8) : Bool := decide ((c.toNat : Int) = 92) || decide ((c.toNat : Int) = 34)
def isFar (c : UInt8) : Bool := decide ((c.toNat : Int) < 32) || decide (126 < (c.toNat : Int))
def esc (c : UInt8) : Str := bif isEsc c then [92, c] else bif decide ((c.toNat : Int) = 10) then [92, 110] else bif isFar c then [92, 120, hexb (c.toNat / 16), hexb (c.toNat % 16)] else [c]
def body (t : Str) : Str := t.flatMap esc
def quoteS (t : Str) : Str := 34 :: (body t ++ [34])
theorem u8all {p : UInt8 → Prop} (h : ∀ n : Fin 256, p (UInt8.ofNat n.val)) (c : UInt8) : p c := by
  have := h ⟨c.toNat, c.toNat_lt⟩
  simpa using this
theorem hi4 (c : UInt8) : Int.fdiv (c.toNat : Int) (2 ^ (shI .u8 4)) = ((c.toNat / 16 : Nat) : Int) := by
  revert c
  exact u8all (by decide +kernel)
theorem lo4 (c : UInt8) : bitsI .and .u8 (c.toNat : Int) 15 = ((c.toNat % 16 : Nat) : Int) := by
  revert c
  exact u8all (by decide +kernel)
theorem hi4_lt (c : UInt8) : c.toNat / 16 < 16 := by have := c.toNat_lt; omega
theorem lo4_lt (c : UInt8) : c.toNat % 16 < 16 := by omega
theorem hx_get (n : Nat) (h : n < 16) : (HX[n]'(by simpa [HX] using h)) = hexb n := by
  simp [hexb, HX, List.getD_eq_getElem?_getD, h]
theorem hx_idx {Z : Type} (n : Nat) (h : n < 16) (k : Int → Option Z) : idxS HX (n : Int) k = k ((hexb n).toNat : Int) := by
  rw [idxS_eq (by simpa [HX] using h), hx_get n h]
theorem u8i (c : UInt8) : UInt8.ofNat ((c.toNat : Int)).toNat = c := by simp
theorem esc_len (c : UInt8) : (esc c).length ≤ 4 ∧ 1 ≤ (esc c).length := by
  unfold esc
  cases isEsc c <;> cases decide ((c.toNat : Int) = 10) <;> cases isFar c <;> simp
theorem body_len (t : Str) : (body t).length ≤ 4 * t.length := by
  induction t with
  | nil => simp [body]
  | cons c t ih =>
    have := (esc_len c).1
    simp only [body, List.flatMap_cons, List.length_append, List.length_cons] at *
    omega
theorem body_cons (c : UInt8) (t : Str) : body (c :: t) = esc c ++ body t := by simp [body]
theorem quoteS_len (t : Str) : (quoteS t).length ≤ 4 * t.length + 2 := by
  have := body_len t
  simp only [quoteS, List.length_cons, List.length_append, List.length_nil]; omega
theorem takeHex (n : Nat) (h : n < 16) : List.take ((IntKind.u8.wrap ((n : Int) + 1)).toNat - ((n : Int)).toNat) (List.drop ((n : Int)).toNat HX) = [hexb n] := by
  have : ∀ m : Fin 16, List.take ((IntKind.u8.wrap (((m.val : Nat) : Int) + 1)).toNat - (((m.val : Nat) : Int)).toNat) (List.drop (((m.val : Nat) : Int)).toNat HX) = [hexb m.val] := by decide +kernel
  exact this ⟨n, h⟩
theorem wrapHex (n : Nat) (h : n < 16) : IntKind.u8.wrap ((n : Int) + 1) = ((n + 1 : Nat) : Int) := by
  have : ∀ m : Fin 16, IntKind.u8.wrap (((m.val : Nat) : Int) + 1) = ((m.val + 1 : Nat) : Int) := by decide +kernel
  exact this ⟨n, h⟩
theorem hxl : HX.length = 16 := rfl
theorem R_Quote_eq (s : Str) (hs : s.length ≤ 17179869184) : R_Quote s = some (quoteS s) := by
  unfold R_Quote
  simp only [jp_eq, show ([48, 49, 50, 51, 52, 53, 54, 55, 56, 57, 97, 98, 99, 100, 101, 102] : Str) = HX from rfl]
  refine (forL_run (fun i l (o : Str) => o.length + 4 * l.length ≤ 4 * s.length + 1 ∧ s.drop i = l) (fun i l o => some (o ++ (body l ++ [34]))) (fun i o h => ?_) (fun i c l o nx h hnx => ?_) s 0 _ ?_).trans ?_
  · simp only [List.length_nil] at h
    rw [chk_true (by simp; omega)]
    rfl
  · obtain ⟨h, hd⟩ := h
    simp only [List.length_cons] at h
    have hi : i < s.length := by
      rcases Nat.lt_or_ge i s.length with h | h
      · exact h
      · rw [List.drop_eq_nil_of_le h] at hd; cases hd
    have hd' : s.drop (i + 1) = l := by
      have := congrArg List.tail hd
      simpa using this
    have ht : List.take ((((i + 1 : Nat) : Int)).toNat - i) (List.drop i s) = [c] := by
      rw [hd, Int.toNat_natCast, Nat.add_sub_cancel_left]; rfl
    simp only [wrap1 i (by omega), ht]
    rw [body_cons]
    unfold esc isEsc
    rw [show (decide ((c.toNat : Int) = 34) || decide ((c.toNat : Int) = 92)) = (decide ((c.toNat : Int) = 92) || decide ((c.toNat : Int) = 34)) from Bool.or_comm _ _]
    cases h1 : decide ((c.toNat : Int) = 92) || decide ((c.toNat : Int) = 34) with
    | true =>
      simp only [cond_true]
      rw [chk_true (by omega), chk_true (by simp), chk_true (by simp; omega), hnx _ ⟨by simp; omega, hd'⟩]
      simp
    | false =>
      simp only [cond_false]
      cases h2 : decide ((c.toNat : Int) = 10) with
      | true =>
        simp only [cond_true]
        rw [chk_true (by simp; omega), hnx _ ⟨by simp; omega, hd'⟩]
        simp
      | false =>
        simp only [cond_false]
        unfold isFar
        cases h3 : decide ((c.toNat : Int) < 32) || decide (126 < (c.toNat : Int)) with
        | true =>
          have a1 := hi4_lt c
          have a2 := lo4_lt c
          simp only [cond_true, hi4, lo4]
          simp only [takeHex _ a1, takeHex _ a2]
          simp only [wrapHex _ a1, wrapHex _ a2, hxl]
          rw [chk_true (by omega), chk_true (by simp), chk_true (by omega), chk_true (by simp), chk_true (by simp; omega), hnx _ ⟨by simp; omega, hd'⟩]
          simp
        | false =>
          simp only [cond_false]
          rw [chk_true (by omega), chk_true (by simp; omega), hnx _ ⟨by simp; omega, hd'⟩]
          simp
  · exact ⟨by simp; omega, rfl⟩
  · rfl
theorem disk_Quote_eq (s : Str) (hs : s.length ≤ 17179869184) : disk_Quote s = some (quoteS s) := by
  unfold disk_Quote
  have hw : IntKind.i64.wrap ((s.length : Int) + 2) = ((s.length + 2 : Nat) : Int) := by rw [wrapS (by omega) (by omega)]; rfl
  simp only [hw, jp_eq]
  rw [chk_true (by omega), chk_true (by simp)]
  refine (forL_run (fun i l (o : List Int) => o.length + 4 * l.length ≤ 4 * s.length + 1) (fun i l o => some (strOf o ++ (body l ++ [34]))) (fun i o h => ?_) (fun i c l o nx h hnx => ?_) s 0 _ ?_).trans ?_
  · simp only [List.length_nil] at h
    rw [chk_true (by simp; omega), strOf_append]
    rfl
  · simp only [List.length_cons] at h
    rw [body_cons]
    unfold esc isEsc
    cases h1 : decide ((c.toNat : Int) = 92) || decide ((c.toNat : Int) = 34) with
    | true =>
      simp only [cond_true]
      rw [chk_true (by simp; omega), hnx _ (by simp; omega), strOf_append]
      simp only [strOf_cons, strOf_nil, u8i]
      simp
    | false =>
      simp only [cond_false]
      cases h2 : decide ((c.toNat : Int) = 10) with
      | true =>
        simp only [cond_true]
        rw [chk_true (by simp; omega), hnx _ (by simp; omega), strOf_append]
        simp [strOf_cons, strOf_nil]
      | false =>
        simp only [cond_false]
        unfold isFar
        cases h3 : decide ((c.toNat : Int) < 32) || decide (126 < (c.toNat : Int)) with
        | true =>
          simp only [cond_true, hi4, lo4]
          rw [show ([48, 49, 50, 51, 52, 53, 54, 55, 56, 57, 97, 98, 99, 100, 101, 102] : Str) = HX from rfl, hx_idx _ (hi4_lt c), hx_idx _ (lo4_lt c), chk_true (by simp; omega), hnx _ (by simp; omega), strOf_append]
          simp only [strOf_cons, strOf_nil, u8i]
          simp
        | false =>
          simp only [cond_false]
          rw [chk_true (by simp; omega), hnx _ (by simp; omega), strOf_append]
          simp only [strOf_cons, strOf_nil, u8i]
          simp
  · simp; omega
  · simp only [List.replicate, List.nil_append, strOf_cons, strOf_nil]
    rfl
def hexv (c : UInt8) : Int := ixb HX c
theorem hexv_cases (c : UInt8) : hexv c = -1 ∨ ∃ a : Fin 16, hexv c = (a.val : Int) ∧ c = hexb a.val := by
  revert c
  exact u8all (by decide +kernel)
theorem hexv_hexb (n : Nat) (h : n < 16) : hexv (hexb n) = n := by
  have : ∀ m : Fin 16, hexv (hexb m.val) = (m.val : Int) := by decide +kernel
  exact this ⟨n, h⟩
/-- What stands behind a backslash: the byte, and how long it is. -/
def escR : Str → Int × Int
  | [] => (0, 0)
  | c :: r => bif isEsc c then ((c.toNat : Int), 1) else bif decide ((c.toNat : Int) = 110) then (10, 1) else bif !decide ((c.toNat : Int) = 120) then (0, 0) else match r with
    | h :: l :: _ => bif decide (hexv h < 0) || decide (hexv l < 0) then (0, 0) else bif (decide (32 ≤ 16 * hexv h + hexv l) && decide (16 * hexv h + hexv l ≤ 126)) || decide (16 * hexv h + hexv l = 10) then (0, 0) else (16 * hexv h + hexv l, 3)
    | _ => (0, 0)
theorem escR_bd (r : Str) : 0 ≤ (escR r).2 ∧ (escR r).2 ≤ r.length ∧ (escR r).2 ≤ 3 ∧ 0 ≤ (escR r).1 ∧ (escR r).1 ≤ 255 := by
  cases r with
  | nil => simp [escR]
  | cons c r =>
    have hc := c.toNat_lt
    simp only [escR]
    cases isEsc c
    · cases decide ((c.toNat : Int) = 110)
      · cases decide ((c.toNat : Int) = 120)
        · simp; omega
        · rcases r with _ | ⟨h, _ | ⟨l, r⟩⟩
          · simp
          · simp; try omega
          · simp only [cond_false, Bool.not_true]
            rcases hexv_cases h with h1 | ⟨a, h1, _⟩
            · simp [h1]; omega
            rcases hexv_cases l with h2 | ⟨b, h2, _⟩
            · simp [h2]; omega
            have := a.isLt
            have := b.isLt
            simp only [h1, h2]
            cases decide (((a.val : Nat) : Int) < 0) || decide (((b.val : Nat) : Int) < 0)
            · simp only [cond_false]
              generalize (decide (32 ≤ 16 * ((a.val : Nat) : Int) + ((b.val : Nat) : Int)) && decide (16 * ((a.val : Nat) : Int) + ((b.val : Nat) : Int) ≤ 126) || decide (16 * ((a.val : Nat) : Int) + ((b.val : Nat) : Int) = 10)) = q
              cases q
              · simp only [cond_false, List.length_cons]; omega
              · simp; omega
            · simp; omega
      · simp; omega
    · simp only [cond_true, List.length_cons]; omega
theorem escR_esc {x : UInt8} (h : isEsc x = true) (r : Str) : escR (x :: r) = ((x.toNat : Int), 1) := by simp only [escR, h, cond_true]
theorem escR_bad {x : UInt8} (h : isEsc x = false) (h2 : decide ((x.toNat : Int) = 110) = false) (h3 : decide ((x.toNat : Int) = 120) = false) (r : Str) : escR (x :: r) = (0, 0) := by simp only [escR, h, h2, h3, cond_false, Bool.not_false, cond_true]
theorem escR_hex (h l : UInt8) (r : Str) : escR (120 :: h :: l :: r) = bif decide (hexv h < 0) || decide (hexv l < 0) then (0, 0) else bif (decide (32 ≤ 16 * hexv h + hexv l) && decide (16 * hexv h + hexv l ≤ 126)) || decide (16 * hexv h + hexv l = 10) then (0, 0) else (16 * hexv h + hexv l, 3) := rfl
theorem escR_hexq (m n : Nat) (hm : m < 16) (hn : n < 16) (r : Str) : escR (120 :: hexb m :: hexb n :: r) = bif (decide (32 ≤ 16 * (m : Int) + (n : Int)) && decide (16 * (m : Int) + (n : Int) ≤ 126)) || decide (16 * (m : Int) + (n : Int) = 10) then (0, 0) else (16 * (m : Int) + (n : Int), 3) := by
  rw [escR_hex, hexv_hexb m hm, hexv_hexb n hn, decide_eq_false (by omega), decide_eq_false (by omega)]
  rfl
theorem ibyte_eq (s : Str) (c : UInt8) : strings_IndexByte s (c.toNat : Int) = some (ixb s c) := by
  unfold strings_IndexByte internal_stringslite_IndexByte
  rw [indexByte_u8]; rfl
theorem wrapB (n : Int) (h : 0 ≤ n) (h2 : n ≤ 255) : IntKind.u8.wrap n = n := by
  rw [wrap8 h h2]
theorem disk_escape_eq (s : Str) : disk_escape s = some (escR s) := by
  unfold disk_escape
  cases s with
  | nil => rfl
  | cons c r =>
    simp only [show decide (c :: r = ([] : Str)) = false from rfl, cond_false]
    rw [show idxS (c :: r) 0 = idxS (c :: r) ((0 : Nat) : Int) from rfl, idxS_eq (by simp)]
    simp only [List.getElem_cons_zero]
    simp only [escR]
    rw [show (decide ((c.toNat : Int) = 92) || decide ((c.toNat : Int) = 34)) = isEsc c from rfl]
    cases isEsc c
    · simp only [cond_false]
      cases decide ((c.toNat : Int) = 110)
      · simp only [cond_false]
        cases decide ((c.toNat : Int) = 120)
        · rfl
        · simp only [Bool.not_true, Bool.false_or, cond_false]
          rcases r with _ | ⟨h, _ | ⟨l, r⟩⟩
          · rfl
          · rfl
          · rw [decide_eq_false (by simp only [List.length_cons]; omega), cond_false, show idxS (c :: h :: l :: r) 1 = idxS (c :: h :: l :: r) ((1 : Nat) : Int) from rfl, idxS_eq (by simp)]
            simp only [List.getElem_cons_succ, List.getElem_cons_zero, show ([48, 49, 50, 51, 52, 53, 54, 55, 56, 57, 97, 98, 99, 100, 101, 102] : Str) = HX from rfl, ibyte_eq, call_some]
            rw [show idxS (c :: h :: l :: r) 2 = idxS (c :: h :: l :: r) ((2 : Nat) : Int) from rfl, idxS_eq (by simp)]
            simp only [List.getElem_cons_succ, List.getElem_cons_zero, ibyte_eq, call_some]
            rw [show ixb HX h = hexv h from rfl, show ixb HX l = hexv l from rfl]
            rcases hexv_cases h with h1 | ⟨a, h1, _⟩
            · rw [h1]; rfl
            rcases hexv_cases l with h2 | ⟨b, h2, _⟩
            · rw [h2]; simp
            have ha := a.isLt
            have hb := b.isLt
            rw [h1, h2, decide_eq_false (by omega), decide_eq_false (by omega)]
            simp only [Bool.or_false, cond_false]
            rw [wrapS (n := 16 * ((a.val : Nat) : Int)) (by omega) (by omega), wrapS (n := 16 * ((a.val : Nat) : Int) + ((b.val : Nat) : Int)) (by omega) (by omega), wrapB _ (by omega) (by omega)]
            generalize (decide (32 ≤ 16 * ((a.val : Nat) : Int) + ((b.val : Nat) : Int)) && decide (16 * ((a.val : Nat) : Int) + ((b.val : Nat) : Int) ≤ 126) || decide (16 * ((a.val : Nat) : Int) + ((b.val : Nat) : Int) = 10)) = q
            cases q <;> rfl
      · rfl
    · rfl
/-- The first byte that is told, and what stands behind it. -/
def sym : Str → Option (UInt8 × Str)
  | [] => none
  | c :: r => bif isFar c || decide ((c.toNat : Int) = 34) then none else bif decide ((c.toNat : Int) = 92) then (bif decide ((escR r).2 = 0) then none else some (UInt8.ofNat (escR r).1.toNat, r.drop (escR r).2.toNat)) else some (c, r)
theorem far_hex (x : UInt8) (h1 : isEsc x = false) (h2 : decide ((x.toNat : Int) = 10) = false) (h3 : isFar x = true) (r : Str) : escR (120 :: hexb (x.toNat / 16) :: hexb (x.toNat % 16) :: r) = ((x.toNat : Int), 3) := by
  have a1 := hi4_lt x
  have a2 := lo4_lt x
  simp only [escR]
  rw [show isEsc 120 = false from rfl, show decide ((((120 : UInt8).toNat : Nat) : Int) = 110) = false from rfl, show decide ((((120 : UInt8).toNat : Nat) : Int) = 120) = true from rfl]
  simp only [cond_false, Bool.not_true, hexv_hexb _ a1, hexv_hexb _ a2]
  have e : 16 * ((x.toNat / 16 : Nat) : Int) + ((x.toNat % 16 : Nat) : Int) = (x.toNat : Int) := by omega
  rw [e, decide_eq_false (by omega), decide_eq_false (by omega)]
  simp only [Bool.or_self, cond_false, h2, Bool.or_false]
  have : (decide (32 ≤ (x.toNat : Int)) && decide ((x.toNat : Int) ≤ 126)) = false := by
    unfold isFar at h3
    simp only [Bool.or_eq_true, decide_eq_true_eq] at h3
    simp only [Bool.and_eq_false_iff, decide_eq_false_iff_not]
    omega
  rw [this]; rfl
theorem sym_esc (x : UInt8) (r : Str) : sym (esc x ++ r) = some (x, r) := by
  unfold esc
  cases h1 : isEsc x
  · cases h2 : decide ((x.toNat : Int) = 10)
    · cases h3 : isFar x
      · simp only [cond_false, List.cons_append, List.nil_append]
        simp only [sym]
        unfold isEsc at h1
        simp only [Bool.or_eq_false_iff] at h1
        rw [h3, h1.1, h1.2]; rfl
      · simp only [cond_false, cond_true, List.cons_append, List.nil_append]
        simp only [sym]
        rw [far_hex x h1 h2 h3]
        simp
        rfl
    · simp only [cond_false, cond_true, List.cons_append, List.nil_append]
      have : x = 10 := by
        have h := of_decide_eq_true h2
        have : x.toNat = 10 := by omega
        exact UInt8.toNat_inj.1 this
      subst this
      rfl
  · simp only [cond_true, List.cons_append, List.nil_append]
    simp only [sym, escR_esc h1]
    simp
    rfl
theorem sym_spec {r r2 : Str} {x : UInt8} (h : sym r = some (x, r2)) : r = esc x ++ r2 := by
  cases r with
  | nil => cases h
  | cons c r =>
    simp only [sym] at h
    cases hf : isFar c || decide ((c.toNat : Int) = 34)
    · rw [hf, cond_false] at h
      simp only [Bool.or_eq_false_iff] at hf
      cases hb : decide ((c.toNat : Int) = 92)
      · rw [hb, cond_false] at h
        cases h
        unfold esc isEsc
        rw [hb, hf.2]
        have : decide ((x.toNat : Int) = 10) = false := by
          have := hf.1
          unfold isFar at this
          simp only [Bool.or_eq_false_iff, decide_eq_false_iff_not] at this
          simp only [decide_eq_false_iff_not]
          omega
        rw [this, hf.1]; rfl
      · rw [hb, cond_true] at h
        have hc : c = 92 := by
          have h := of_decide_eq_true hb
          have : c.toNat = 92 := by omega
          exact UInt8.toNat_inj.1 this
        subst hc
        cases r with
        | nil => simp [escR] at h
        | cons d r =>
          cases he : isEsc d
          · cases hn : decide ((d.toNat : Int) = 110)
            · cases hx : decide ((d.toNat : Int) = 120)
              · rw [escR_bad he hn hx] at h; simp at h
              · have hd : d = 120 := by
                  have h := of_decide_eq_true hx
                  have : d.toNat = 120 := by omega
                  exact UInt8.toNat_inj.1 this
                subst hd
                rcases r with _ | ⟨a, _ | ⟨b, r⟩⟩
                · rw [show escR [120] = (0, 0) from rfl] at h; simp at h
                · rw [show escR [120, a] = (0, 0) from rfl] at h; simp at h
                · rcases hexv_cases a with h1 | ⟨m, h1, rfl⟩
                  · rw [escR_hex, h1] at h; simp at h
                  rcases hexv_cases b with h2 | ⟨n, h2, rfl⟩
                  · rw [escR_hex, h2] at h; simp at h
                  have hm := m.isLt
                  have hn' := n.isLt
                  have hE := escR_hexq m.val n.val hm hn' r
                  cases hq : (decide (32 ≤ 16 * ((m.val : Nat) : Int) + ((n.val : Nat) : Int)) && decide (16 * ((m.val : Nat) : Int) + ((n.val : Nat) : Int) ≤ 126)) || decide (16 * ((m.val : Nat) : Int) + ((n.val : Nat) : Int) = 10)
                  · rw [hq, cond_false] at hE
                    rw [hE] at h
                    rw [show decide ((3 : Int) = 0) = false from rfl, cond_false] at h
                    have h' := Option.some.inj h
                    have hx' : UInt8.ofNat (16 * ((m.val : Nat) : Int) + ((n.val : Nat) : Int)).toNat = x := congrArg Prod.fst h'
                    have hr' : List.drop (3 : Int).toNat (120 :: hexb m.val :: hexb n.val :: r) = r2 := congrArg Prod.snd h'
                    have hr2 : r = r2 := hr'
                    have hxn : x.toNat = 16 * m.val + n.val := by
                      rw [← hx', UInt8.toNat_ofNat']
                      omega
                    simp only [Bool.or_eq_false_iff, Bool.and_eq_false_iff, decide_eq_false_iff_not] at hq
                    unfold esc
                    have e1 : isEsc x = false := by
                      unfold isEsc
                      simp only [Bool.or_eq_false_iff, decide_eq_false_iff_not]
                      omega
                    have e2 : decide ((x.toNat : Int) = 10) = false := by simp only [decide_eq_false_iff_not]; omega
                    have e3 : isFar x = true := by
                      unfold isFar
                      simp only [Bool.or_eq_true, decide_eq_true_eq]
                      omega
                    rw [e1, e2, e3, hxn, show (16 * m.val + n.val) / 16 = m.val by omega, show (16 * m.val + n.val) % 16 = n.val by omega, ← hr2]
                    rfl
                  · rw [hq, cond_true] at hE
                    rw [hE] at h; simp at h
            · have hd : d = 110 := by
                have h := of_decide_eq_true hn
                have : d.toNat = 110 := by omega
                exact UInt8.toNat_inj.1 this
              subst hd
              have h' : some ((10 : UInt8), r) = some (x, r2) := h
              cases h'
              rfl
          · rw [escR_esc he] at h
            simp only [] at h
            rw [show decide ((1 : Int) = 0) = false from rfl, cond_false, u8i] at h
            cases h
            unfold esc
            rw [he]; rfl
    · rw [hf, cond_true] at h; cases h
def undo : Nat → Str → Option Str
  | n, [] => some []
  | 0, _ :: _ => none
  | n + 1, c :: r => (sym (c :: r)).bind fun p => (undo n p.2).map (p.1 :: ·)
theorem undo_nil (n : Nat) : undo n [] = some [] := by cases n <;> rfl
theorem undo_zero (c : UInt8) (r : Str) : undo 0 (c :: r) = none := rfl
theorem undo_cons (n : Nat) (c : UInt8) (r : Str) : undo (n + 1) (c :: r) = (sym (c :: r)).bind fun p => (undo n p.2).map (p.1 :: ·) := rfl
theorem esc_ne (x : UInt8) : esc x ≠ [] := by
  have := (esc_len x).2
  intro h; rw [h] at this; simp at this
theorem undo_body : ∀ (t : Str) (n : Nat), t.length ≤ n → undo n (body t) = some t
  | [], n, _ => undo_nil n
  | x :: t, 0, h => by simp at h
  | x :: t, n + 1, h => by
    rw [body_cons]
    have hs := sym_esc x (body t)
    have hne : esc x ++ body t ≠ [] := fun h => esc_ne x (List.append_eq_nil_iff.1 h).1
    obtain ⟨c, r, hb⟩ := List.exists_cons_of_ne_nil hne
    rw [hb] at hs ⊢
    rw [undo_cons, hs, Option.bind_some, undo_body t n (by simpa using h)]; rfl
theorem undo_sound : ∀ (n : Nat) (r t : Str), undo n r = some t → body t = r
  | n, [], t, h => by
    rw [undo_nil] at h
    obtain rfl := Option.some.inj h
    rfl
  | 0, c :: r, t, h => by rw [undo_zero] at h; cases h
  | n + 1, c :: r, t, h => by
    rw [undo_cons] at h
    obtain ⟨p, hs, h⟩ := Option.bind_eq_some_iff.1 h
    obtain ⟨t2, hu, h⟩ := Option.map_eq_some_iff.1 h
    rw [← h, body_cons, undo_sound n p.2 t2 hu]
    exact (sym_spec (x := p.1) (r2 := p.2) hs).symm
theorem sym_len {r r2 : Str} {x : UInt8} (h : sym r = some (x, r2)) : r2.length < r.length := by
  have := sym_spec h
  have hl := (esc_len x).2
  rw [this, List.length_append]; omega
theorem bind_ext {α β : Type} {o : Option α} {f g : α → Option β} (h : ∀ p, o = some p → f p = g p) : o.bind f = o.bind g := by
  cases o with
  | none => rfl
  | some p => exact h p rfl
theorem undo_stable : ∀ (n : Nat) (r : Str), r.length ≤ n → undo n r = undo r.length r
  | n, [], _ => by rw [undo_nil, undo_nil]
  | 0, c :: r, h => by simp at h
  | n + 1, c :: r, h => by
    rw [List.length_cons, undo_cons, undo_cons]
    refine bind_ext fun p hs => ?_
    have hl := sym_len (x := p.1) (r2 := p.2) hs
    rw [List.length_cons] at hl h
    rw [undo_stable n p.2 (by omega), undo_stable r.length p.2 (by omega)]
def undoF (r : Str) : Option Str := undo r.length r
theorem undoF_step {c : UInt8} {r : Str} : undoF (c :: r) = (sym (c :: r)).bind fun p => (undoF p.2).map (p.1 :: ·) := by
  unfold undoF
  rw [List.length_cons, undo_cons]
  refine bind_ext fun p hs => ?_
  have hl := sym_len (x := p.1) (r2 := p.2) hs
  rw [List.length_cons] at hl
  rw [undo_stable r.length p.2 (by omega)]
theorem body_ge (t : Str) : t.length ≤ (body t).length := by
  induction t with
  | nil => simp
  | cons c t ih =>
    have := (esc_len c).2
    rw [body_cons, List.length_append, List.length_cons]
    omega
theorem undoF_body (t : Str) : undoF (body t) = some t := undo_body t _ (body_ge t)
theorem undoF_sound {r t : Str} (h : undoF r = some t) : body t = r := undo_sound _ _ _ h
/-- What stands between the quotes, read. -/
def fin (o : Option Str) : Str × Int := match o with
  | some t => (t, 0)
  | none => ([], 8)
def mid (s : Str) : Str := (s.drop 1).take (s.length - 2)
def quoted (s : Str) : Bool := !((decide ((s.length : Int) < 2) || !decide (((s.getD 0 0).toNat : Int) = 34)) || !decide (((s.getD (s.length - 1) 0).toNat : Int) = 34))
def unqS (s : Str) : Str × Int := bif quoted s then fin (undoF (mid s)) else ([], 8)
theorem idx_last (s : Str) (h : 2 ≤ s.length) (h2 : s.length ≤ 17179869184) : IntKind.i64.wrap ((s.length : Int) - 1) = ((s.length - 1 : Nat) : Int) := wrapm1 _ (by omega) (by omega)
theorem disk_Unquote_eq (s : Str) (hs : s.length ≤ 17179869184) : disk_Unquote s = some (unqS s) := by
  unfold disk_Unquote unqS quoted
  obtain ⟨N, hN⟩ : ∃ N, Fuel = N := ⟨_, rfl⟩
  have hN2 : 1099511627776 ≤ N := hN ▸ fuel_ge
  rw [hN]
  clear hN
  by_cases h2 : 2 ≤ s.length
  rotate_left
  · rw [show decide ((s.length : Int) < 2) = true by simp; omega]
    simp only [Bool.not_true, Bool.true_or]
    rw [chk_true (by intro h; cases h), chk_true (by intro h; cases h)]
    rfl
  rw [show decide ((s.length : Int) < 2) = false by simp; omega]
  rw [idx_last s h2 hs]
  simp only [Bool.false_or, Int.toNat_natCast]
  rw [chk_true (by intro _; omega), chk_true (by intro _; omega)]
  generalize (!decide (((s.getD 0 0).toNat : Int) = 34) || !decide (((s.getD (s.length - 1) 0).toNat : Int) = 34)) = q
  cases q
  rotate_left
  · rfl
  have hm : List.take (s.length - 1 - 1) (List.drop 1 s) = mid s := by unfold mid; congr 1
  simp only [cond_false, Bool.not_false, cond_true, hm, jp_eq]
  have hml : (mid s).length = s.length - 2 := by simp [mid]; omega
  rw [chk_true (by omega), chk_true (by omega)]
  refine (loopN_run (S := Int × List Int) (fun st => ∃ i : Nat, st.1 = i ∧ i ≤ (mid s).length ∧ st.2.length ≤ i) (fun st => (mid s).length - st.1.toNat) (fun st => some (fin ((undoF ((mid s).drop st.1.toNat)).map (strOf st.2 ++ ·)))) ?_ N _ ⟨0, rfl, by omega, by simp⟩ (by simp only; omega)).trans ?_
  · rintro ⟨i', o⟩ nx ⟨i, rfl, hi, ho⟩ hnx
    simp only at ho hnx ⊢
    by_cases hlt : i < (mid s).length
    · rw [decide_eq_true (by omega), cond_true, idxS_eq hlt]
      simp only [Int.toNat_natCast]
      rw [List.drop_eq_getElem_cons hlt, undoF_step]
      generalize hcc : (mid s)[i] = c
      rw [show ((decide ((c.toNat : Int) < 32) || decide (126 < (c.toNat : Int))) || decide ((c.toNat : Int) = 34)) = (isFar c || decide ((c.toNat : Int) = 34)) from rfl]
      simp only [sym]
      cases hf : isFar c || decide ((c.toNat : Int) = 34)
      · simp only [cond_false]
        cases hb : decide ((c.toNat : Int) = 92)
        · simp only [cond_false]
          rw [wrap1 i (by omega), chk_true (by simp; omega), hnx _ ⟨i + 1, rfl, by omega, by simp; omega⟩ (by simp only [Int.toNat_natCast]; omega)]
          simp only [Int.toNat_natCast]
          rw [Option.bind_some]
          cases undoF ((mid s).drop (i + 1)) with
          | none => rfl
          | some t => simp only [Option.map_some, strOf_append, strOf_cons, strOf_nil, u8i]; simp [fin]
        · simp only [cond_true]
          rw [wrap1 i (by omega), chk_true (by omega)]
          simp only [Int.toNat_natCast, disk_escape_eq, call_some]
          have hbd := escR_bd ((mid s).drop (i + 1))
          rw [List.length_drop] at hbd
          generalize hE : escR ((mid s).drop (i + 1)) = E at hbd
          obtain ⟨x, n⟩ := E
          simp only at hbd ⊢
          cases hz : decide (n = 0)
          · simp only [cond_false]
            have hn0 : n ≠ 0 := of_decide_eq_false hz
            rw [chk_true (by simp; omega), wrapS (n := (i : Int) + n) (by omega) (by omega), wrapS (n := (i : Int) + n + 1) (by omega) (by omega)]
            have e : (i : Int) + n + 1 = ((i + n.toNat + 1 : Nat) : Int) := by omega
            rw [e, hnx _ ⟨i + n.toNat + 1, rfl, by omega, by simp; omega⟩ (by simp only [Int.toNat_natCast]; omega)]
            simp only [Int.toNat_natCast, List.drop_drop]
            rw [show i + 1 + n.toNat = i + n.toNat + 1 by omega]
            rw [Option.bind_some]
            simp only
            cases undoF ((mid s).drop (i + n.toNat + 1)) with
            | none => rfl
            | some t => simp only [Option.map_some, strOf_append, strOf_cons, strOf_nil]; simp [fin]
          · rfl
      · rfl
    · obtain rfl : i = (mid s).length := by omega
      rw [decide_eq_false (by omega), cond_false, Int.toNat_natCast, List.drop_length]
      show _ = some (strOf o ++ [], (0 : Int))
      rw [List.append_nil]
  · simp only [Int.toNat_zero, List.drop_zero, List.replicate]
    cases undoF (mid s) with
    | none => rfl
    | some t => rfl
def hexw (h l : UInt8) : Int := IntKind.u8.wrap (IntKind.i64.wrap ((IntKind.i64.wrap (hexv h * 16)) + hexv l))
def isEsc' (c : UInt8) : Bool := decide ((c.toNat : Int) = 34) || decide ((c.toNat : Int) = 92)
theorem isEsc'_eq (c : UInt8) : isEsc' c = isEsc c := Bool.or_comm _ _
def lsym2 : Str → Option (Int × Str)
  | d :: r => bif isEsc' d then some ((d.toNat : Int), r) else bif decide ((d.toNat : Int) = 110) then some (10, r) else bif decide ((d.toNat : Int) = 120) then (match r with
    | h :: l :: r' => some (hexw h l, r')
    | _ => none) else none
  | [] => none
def lsym : Str → Option (Int × Str)
  | [] => none
  | c :: r => bif !decide ((c.toNat : Int) = 92) then some ((c.toNat : Int), r) else lsym2 r
theorem hexw_eq (m n : Nat) (hm : m < 16) (hn : n < 16) : hexw (hexb m) (hexb n) = 16 * m + n := by
  unfold hexw
  rw [hexv_hexb m hm, hexv_hexb n hn, wrapS (n := (m : Int) * 16) (by omega) (by omega), wrapS (n := (m : Int) * 16 + n) (by omega) (by omega), wrapB _ (by omega) (by omega)]
  omega
theorem lsym_esc (x : UInt8) (r : Str) : lsym (esc x ++ r) = some ((x.toNat : Int), r) := by
  unfold esc
  cases h1 : isEsc x
  · cases h2 : decide ((x.toNat : Int) = 10)
    · cases h3 : isFar x
      · simp only [cond_false, List.cons_append, List.nil_append, lsym]
        unfold isEsc at h1
        simp only [Bool.or_eq_false_iff] at h1
        rw [h1.1]; rfl
      · simp only [cond_false, cond_true, List.cons_append, List.nil_append, lsym]
        have a1 := hi4_lt x
        have a2 := lo4_lt x
        show some (hexw (hexb (x.toNat / 16)) (hexb (x.toNat % 16)), r) = _
        rw [hexw_eq _ _ a1 a2]
        congr 2
        omega
    · simp only [cond_false, cond_true, List.cons_append, List.nil_append]
      have h := of_decide_eq_true h2
      rw [h]; rfl
  · simp only [cond_true, List.cons_append, List.nil_append, lsym]
    show lsym2 (x :: r) = _
    simp only [lsym2, isEsc'_eq, h1, cond_true]
theorem lsym_len {r : Str} {p : Int × Str} (h : lsym r = some p) : p.2.length < r.length := by
  cases r with
  | nil => cases h
  | cons c r =>
    simp only [lsym] at h
    cases hc : !decide ((c.toNat : Int) = 92)
    · rw [hc, cond_false] at h
      cases r with
      | nil => cases h
      | cons d r =>
        simp only [lsym2] at h
        cases h1 : isEsc' d
        · rw [h1, cond_false] at h
          cases h2 : decide ((d.toNat : Int) = 110)
          · rw [h2, cond_false] at h
            cases h3 : decide ((d.toNat : Int) = 120)
            · rw [h3, cond_false] at h; cases h
            · rw [h3, cond_true] at h
              rcases r with _ | ⟨a, _ | ⟨b, r⟩⟩
              · cases h
              · cases h
              · have := (Option.some.inj h).symm
                rw [this]; simp only [List.length_cons]; omega
          · rw [h2, cond_true] at h
            have := (Option.some.inj h).symm
            rw [this]; simp only [List.length_cons]; omega
        · rw [h1, cond_true] at h
          have := (Option.some.inj h).symm
          rw [this]; simp only [List.length_cons]; omega
    · rw [hc, cond_true] at h
      have := (Option.some.inj h).symm
      rw [this]; simp only [List.length_cons]; omega
def lund : Nat → Str → List Int → Option (List Int)
  | n, [], o => some o
  | 0, _ :: _, _ => none
  | n + 1, c :: r, o => (lsym (c :: r)).bind fun p => lund n p.2 (o ++ [p.1])
theorem lund_nil (n : Nat) (o : List Int) : lund n [] o = some o := by cases n <;> rfl
theorem lund_cons (n : Nat) (c : UInt8) (r : Str) (o : List Int) : lund (n + 1) (c :: r) o = (lsym (c :: r)).bind fun p => lund n p.2 (o ++ [p.1]) := rfl
theorem lund_stable : ∀ (n : Nat) (r : Str) (o : List Int), r.length ≤ n → lund n r o = lund r.length r o
  | n, [], o, _ => by rw [lund_nil, lund_nil]
  | 0, c :: r, o, h => by simp at h
  | n + 1, c :: r, o, h => by
    rw [List.length_cons, lund_cons, lund_cons]
    refine bind_ext fun p hs => ?_
    have hl := lsym_len hs
    rw [List.length_cons] at hl h
    rw [lund_stable n p.2 _ (by omega), lund_stable r.length p.2 _ (by omega)]
def lundF (r : Str) (o : List Int) : Option (List Int) := lund r.length r o
theorem lundF_step {c : UInt8} {r : Str} {o : List Int} : lundF (c :: r) o = (lsym (c :: r)).bind fun p => lundF p.2 (o ++ [p.1]) := by
  unfold lundF
  rw [List.length_cons, lund_cons]
  refine bind_ext fun p hs => ?_
  have hl := lsym_len hs
  rw [List.length_cons] at hl
  rw [lund_stable r.length p.2 _ (by omega)]
theorem lundF_body : ∀ (t : Str) (o : List Int), lundF (body t) o = some (o ++ bytesOf t)
  | [], o => by rw [show body [] = [] from rfl]; simp [lundF, lund_nil, bytesOf]
  | x :: t, o => by
    rw [body_cons]
    have hs := lsym_esc x (body t)
    have hne : esc x ++ body t ≠ [] := fun h => esc_ne x (List.append_eq_nil_iff.1 h).1
    obtain ⟨c, r, hb⟩ := List.exists_cons_of_ne_nil hne
    rw [hb] at hs ⊢
    rw [lundF_step, hs, Option.bind_some, lundF_body t]
    simp [bytesOf]
theorem strOf_bytes (t : Str) : strOf (bytesOf t) = t := strOf_bytesOf t
theorem quoted_spec (s : Str) (h : quoted s = true) : s = 34 :: (mid s ++ [34]) := by
  unfold quoted at h
  simp only [Bool.not_eq_true', Bool.or_eq_false_iff, decide_eq_false_iff_not, Bool.not_eq_false', decide_eq_true_eq] at h
  obtain ⟨⟨h1, h2⟩, h3⟩ := h
  rcases s with _ | ⟨c, r⟩
  · simp at h1
  have hr : r ≠ [] := by rintro rfl; simp at h1
  have hc : c = 34 := by
    have : c.toNat = 34 := by rw [List.getD_cons_zero] at h2; omega
    exact UInt8.toNat_inj.1 this
  have hrl : 0 < r.length := List.length_pos_iff.2 hr
  have hl : r.getLast hr = 34 := by
    rw [show (c :: r).length - 1 = (r.length - 1) + 1 by simp; omega, List.getD_cons_succ, List.getD_eq_getElem?_getD, List.getElem?_eq_getElem (by omega), Option.getD_some] at h3
    rw [List.getLast_eq_getElem]
    have : (r[r.length - 1]'(by omega)).toNat = 34 := by omega
    exact UInt8.toNat_inj.1 this
  have hm : mid (c :: r) = r.dropLast := by
    unfold mid
    rw [List.dropLast_eq_take]
    simp
  rw [hm, hc]
  congr 1
  rw [← hl]
  exact (List.dropLast_concat_getLast hr).symm
theorem two_get (c d : UInt8) (r : Str) : (c :: d :: r).getD 1 0 = d := rfl
theorem R_Unquote_eq (s : Str) (hs : s.length ≤ 17179869184) : R_Unquote s = some (unqS s) := by
  unfold R_Unquote unqS
  obtain ⟨N, hN⟩ : ∃ N, Fuel = N := ⟨_, rfl⟩
  have hN2 : 1099511627776 ≤ N := hN ▸ fuel_ge
  rw [hN]
  clear hN
  cases hq : quoted s
  · unfold quoted at hq
    simp only [Bool.not_eq_false'] at hq
    by_cases h2 : 2 ≤ s.length
    · rw [show decide ((s.length : Int) < 2) = false by simp; omega] at hq ⊢
      rw [idx_last s h2 hs]
      simp only [Bool.false_or, Int.toNat_natCast] at hq ⊢
      rw [chk_true (by intro _; omega), chk_true (by intro _; omega), hq]
      rfl
    · rw [show decide ((s.length : Int) < 2) = true by simp; omega]
      simp only [Bool.not_true, Bool.true_or]
      rw [chk_true (by intro h; cases h), chk_true (by intro h; cases h)]
      rfl
  have hsp := quoted_spec s hq
  unfold quoted at hq
  simp only [Bool.not_eq_true'] at hq
  have h2 : 2 ≤ s.length := by
    simp only [Bool.or_eq_false_iff, decide_eq_false_iff_not] at hq
    omega
  rw [show decide ((s.length : Int) < 2) = false by simp; omega] at hq ⊢
  rw [idx_last s h2 hs]
  simp only [Bool.false_or, Int.toNat_natCast] at hq ⊢
  rw [chk_true (by intro _; omega), chk_true (by intro _; omega), hq]
  have hm : List.take (s.length - 1 - 1) (List.drop 1 s) = mid s := by unfold mid; congr 1
  have hml : (mid s).length = s.length - 2 := by simp [mid]; omega
  simp only [cond_false, cond_true, hm, jp_eq]
  rw [chk_true (by omega)]
  refine (loopN_run (S := Str × List Int) (fun st => st.2.length + st.1.length ≤ s.length) (fun st => st.1.length) (fun st => match lundF st.1 st.2 with
      | some o => bif !decide (quoteS (strOf o) = s) then some (([] : Str), (8 : Int)) else some (strOf o, 0)
      | none => some ([], 8)) ?_ N _ (by simp only [List.length_nil]; omega) (by simp only; omega)).trans ?_
  · rintro ⟨b, o⟩ nx hi hnx
    dsimp +instances only at hi hnx ⊢
    cases b with
    | nil =>
      simp only [show decide (([] : Str) = []) = true from rfl, Bool.not_true, cond_false]
      rw [R_Quote_eq _ (by simp [strOf]; simp at hi; omega), call_some]
      rfl
    | cons c r =>
      simp only [show decide (c :: r = ([] : Str)) = false from rfl, Bool.not_false, cond_true]
      rw [show idxS (c :: r) 0 = idxS (c :: r) ((0 : Nat) : Int) from rfl, idxS_eq (by simp)]
      simp only [List.getElem_cons_zero]
      rw [lundF_step]
      simp only [List.length_cons] at hi
      cases hc : !decide ((c.toNat : Int) = 92)
      · simp only [cond_false]
        cases r with
        | nil =>
          simp only [List.length_cons, List.length_nil]
          rw [chk_true (by intro h; simp at h), chk_true (by intro h; simp at h)]
          simp only [show decide ((2 : Int) ≤ ((0 + 1 : Nat) : Int)) = false from rfl, show decide ((4 : Int) ≤ ((0 + 1 : Nat) : Int)) = false from rfl, Bool.false_and, cond_false]
          rw [chk_true (by intro h; cases h), chk_true (by intro h; cases h)]
          simp only [lsym, hc, cond_false, lsym2]
          rfl
        | cons d r =>
          rw [show decide ((2 : Int) ≤ ((c :: d :: r).length : Int)) = true by simp; omega]
          dsimp +instances only [two_get]
          simp only [Bool.true_and]
          rw [chk_true (by intro h; simp; omega), chk_true (by intro h; simp; omega)]
          rw [show (decide ((d.toNat : Int) = 34) || decide ((d.toNat : Int) = 92)) = isEsc' d from rfl]
          simp only [List.length_cons] at hi
          cases h1 : isEsc' d
          · simp only [cond_false]
            rw [chk_true (by intro h; simp; omega)]
            cases h3 : decide ((d.toNat : Int) = 110)
            · simp only [cond_false]
              rw [chk_true (by intro h; simp; omega)]
              cases h4 : decide ((d.toNat : Int) = 120)
              · simp only [Bool.and_false, cond_false, lsym, hc, lsym2, h1, h3, h4]
                rfl
              · simp only [Bool.and_true]
                rcases r with _ | ⟨a, _ | ⟨e, r⟩⟩
                · simp only [show decide ((4 : Int) ≤ (([c, d] : Str).length : Int)) = false from rfl, cond_false, lsym, hc, lsym2, h1, h3, h4, cond_true]
                  rfl
                · simp only [show decide ((4 : Int) ≤ (([c, d, a] : Str).length : Int)) = false from rfl, cond_false, lsym, hc, lsym2, h1, h3, h4, cond_true]
                  rfl
                · rw [show decide ((4 : Int) ≤ ((c :: d :: a :: e :: r).length : Int)) = true by simp; omega, cond_true]
                  rw [chk_true (by simp; omega)]
                  rw [show List.take (3 - 2) (List.drop 2 (c :: d :: a :: e :: r)) = [a] from rfl, show List.take (4 - 3) (List.drop 3 (c :: d :: a :: e :: r)) = [e] from rfl]
                  rw [show ([48, 49, 50, 51, 52, 53, 54, 55, 56, 57, 97, 98, 99, 100, 101, 102] : Str) = HX from rfl, index_eq, index_eq, call_some, chk_true (by simp; omega), call_some]
                  rw [show IntKind.u8.wrap (IntKind.i64.wrap (IntKind.i64.wrap (ixb HX a * 16) + ixb HX e)) = hexw a e from rfl]
                  simp only [List.length_cons] at hi
                  rw [chk_true (by simp; omega), chk_true (by simp; omega), hnx _ (by simp; omega) (by simp; omega)]
                  simp only [cond_false, lsym, hc, lsym2, h1, h3, h4, cond_true, Option.bind_some]
                  rfl
            · simp only [cond_true]
              rw [chk_true (by simp; omega), chk_true (by simp; omega), hnx _ (by simp; omega) (by simp; omega)]
              simp only [cond_false, lsym, hc, lsym2, h1, h3, cond_true, Option.bind_some]
              rfl
          · simp only [cond_true]
            rw [show idxS (c :: d :: r) 1 = idxS (c :: d :: r) ((1 : Nat) : Int) from rfl, idxS_eq (by simp)]
            simp only [List.getElem_cons_succ, List.getElem_cons_zero]
            rw [chk_true (by simp; omega), chk_true (by simp; omega), hnx _ (by simp; omega) (by simp; omega)]
            simp only [cond_false, lsym, hc, lsym2, h1, cond_true, Option.bind_some]
            rfl
      · simp only [cond_true]
        rw [chk_true (by simp; omega), chk_true (by simp; omega), hnx _ (by simp; omega) (by simp)]
        simp only [lsym, hc, cond_true, Option.bind_some]
        rfl
  · simp only [Bool.not_false, cond_true]
    cases hu : undoF (mid s) with
    | some t =>
      have hb := undoF_sound hu
      rw [← hb, lundF_body, List.nil_append]
      simp only [strOf_bytes]
      have : quoteS t = s := by
        unfold quoteS
        rw [hb]; exact hsp.symm
      rw [this]
      simp only [decide_true, Bool.not_true, cond_false, fin]
    | none =>
      cases hl : lundF (mid s) [] with
      | none => rfl
      | some o =>
        have : quoteS (strOf o) ≠ s := by
          intro h
          rw [hsp] at h
          unfold quoteS at h
          have h' := (List.cons.inj h).2
          have hb := List.append_cancel_right h'
          rw [← hb, undoF_body] at hu
          cases hu
        simp only [decide_eq_false this, Bool.not_false, cond_true, fin]
def allI {α : Type} (q : Nat → α → Bool) : Nat → List α → Bool
  | _, [] => true
  | i, x :: l => q i x && allI q (i + 1) l
section
variable {Z α : Type}
theorem forL_allI {f : Nat → α → Unit → (Unit → Option Z) → (Unit → Option Z) → Option Z} {z : Z} (q : Nat → α → Bool) (hf : ∀ i x nx k, f i x () nx k = bif q i x then nx () else some z) (k : Unit → Option Z) :
    ∀ (l : List α) (i : Nat), forL l i f () k = bif allI q i l then k () else some z
  | [], i => rfl
  | x :: l, i => by
    unfold forL allI
    rw [hf, forL_allI q hf k l (i + 1)]
    cases q i x <;> rfl
end
def smallB (c : UInt8) : Bool := decide (97 ≤ (c.toNat : Int)) && decide ((c.toNat : Int) ≤ 122)
def digitB (c : UInt8) : Bool := decide (48 ≤ (c.toNat : Int)) && decide ((c.toNat : Int) ≤ 57)
def nameB (c : UInt8) : Bool := ((smallB c || digitB c) || decide ((c.toNat : Int) = 45)) || decide ((c.toNat : Int) = 46)
def nameOk (s : Str) : Bool := ((s.all nameB && (!decide (s = []) && decide ((s.length : Int) ≤ 40))) && smallB (s.getD 0 0))
theorem orG (a b : Bool) : (a || bif !a then b else false) = (a || b) := by cases a <;> rfl
theorem ver_IsName_1_eq (c : UInt8) : ver_IsName_1 (c.toNat : Int) = some (nameB c) := by
  unfold ver_IsName_1 ver_isSmall ver_isDigit
  simp only [call_some, callG_some, orG]
  rfl
theorem ver_IsName_eq (s : Str) : ver_IsName s = some (nameOk s) := by
  unfold ver_IsName ver_each_i1
  simp only [jp_eq]
  rw [forL_all nameB (fun i x nx k => by simp only [ver_IsName_1_eq, call_some]; cases nameB x <;> rfl)]
  simp only [condS, call_some]
  rw [chk_true]
  · unfold ver_isSmall
    simp only [callG_some]
    unfold nameOk smallB
    generalize hA : s.all nameB = A
    cases A <;> simp only [cond_true, cond_false, Bool.false_and, Bool.true_and]
    generalize hB : (!decide (s = []) && decide ((s.length : Int) ≤ 40)) = B
    cases B <;> rfl
  · intro h
    cases s with
    | nil => cases hA : List.all [] nameB <;> rw [hA] at h <;> simp at h
    | cons => simp only [List.length_cons]; omega
theorem allI_all {α : Type} {q : Nat → α → Bool} {p : α → Bool} : ∀ (l : List α) (i : Nat), (∀ j x, i ≤ j → q j x = p x) → allI q i l = l.all p
  | [], i, _ => rfl
  | x :: l, i, h => by
    unfold allI
    rw [h i x (Nat.le_refl _), allI_all l (i + 1) (fun j x hj => h j x (by omega)), List.all_cons]
theorem R_IsName_eq (s : Str) : R_IsName s = some (nameOk s) := by
  unfold R_IsName
  simp only [jp_eq]
  refine (forL_allI (z := false) (fun i c => !((decide ((i : Int) = 0) && !smallB c) || !nameB c)) (fun i c nx k => ?_) _ _ _).trans ?_
  · rw [condN]
    congr 1
    unfold nameB smallB digitB
    rw [Bool.eq_iff_iff]
    simp only [Bool.or_eq_true, Bool.and_eq_true, Bool.not_eq_true', decide_eq_true_eq, Bool.or_eq_false_iff, Bool.and_eq_false_iff, decide_eq_false_iff_not, Bool.not_eq_false']
    omega
  simp only [condS]
  congr 1
  unfold nameOk
  cases s with
  | nil => rfl
  | cons x l =>
    unfold allI
    rw [allI_all (p := nameB) l 1 (fun j x hj => by rw [decide_eq_false (by omega)]; cases nameB x <;> rfl), List.all_cons]
    simp only [List.getD_cons_zero]
    cases nameB x <;> cases smallB x <;> cases l.all nameB <;> simp
def valB (c : UInt8) : Bool := decide (32 ≤ (c.toNat : Int)) && decide ((c.toNat : Int) ≤ 126)
def valueOk (s : Str) : Bool := s.all valB && decide ((s.length : Int) ≤ 1000)
theorem R_IsValue_eq (s : Str) : R_IsValue s = some (valueOk s) := by
  unfold R_IsValue
  simp only [jp_eq]
  refine (forL_all (z := false) valB (fun i c nx k => ?_) _ _ _).trans ?_
  · rw [condN]
    congr 1
    unfold valB
    rw [Bool.eq_iff_iff]
    simp only [Bool.or_eq_true, Bool.and_eq_true, Bool.not_eq_true', decide_eq_true_eq, Bool.or_eq_false_iff, Bool.and_eq_false_iff, decide_eq_false_iff_not, Bool.not_eq_false']
    omega
  · simp only [condS]
    unfold valueOk
    cases s.all valB <;> rfl
theorem ver_IsValue_eq (s : Str) : ver_IsValue s = some (valueOk s) := by
  unfold ver_IsValue ver_each_i2
  simp only [jp_eq]
  rw [forL_all valB (fun i x nx k => by unfold ver_IsValue_1 valB; simp only [call_some]; rw [condN, Bool.not_not])]
  simp only [condS, callG_some]
  unfold valueOk
  cases s with
  | nil => rfl
  | cons x l => simp only [show decide (x :: l = []) = false from rfl, Bool.not_false, Bool.true_and, cond_true, Bool.false_or]; cases List.all (x :: l) valB <;> rfl
def partB (c : UInt8) : Bool := ((((smallB c || (decide (65 ≤ (c.toNat : Int)) && decide ((c.toNat : Int) ≤ 90))) || digitB c) || decide ((c.toNat : Int) = 45)) || decide ((c.toNat : Int) = 46)) || decide ((c.toNat : Int) = 95)
def partOk (s : Str) : Bool := ((s.all partB && (!decide (s = []) && decide ((s.length : Int) ≤ 40))) && !decide (s = [46])) && !decide (s = [46, 46])
theorem R_isPart_eq (s : Str) : R_isPart s = some (partOk s) := by
  unfold R_isPart
  simp only [jp_eq]
  refine (forL_all (z := false) partB (fun i c nx k => ?_) _ _ _).trans ?_
  · rw [condN]
    congr 1
    unfold partB smallB digitB
    rw [Bool.eq_iff_iff]
    simp only [Bool.or_eq_true, Bool.and_eq_true, Bool.not_eq_true', decide_eq_true_eq, Bool.or_eq_false_iff, Bool.and_eq_false_iff, decide_eq_false_iff_not, Bool.not_eq_false']
    omega
  · simp only [condS]
    unfold partOk
    cases s.all partB <;> rfl
theorem orG3 (a b d : Bool) : ((a || b) || bif !(a || b) then d else false) = ((a || b) || d) := by cases a <;> cases b <;> rfl
theorem ver_isPart_eq (s : Str) : ver_isPart s = some (partOk s) := by
  unfold ver_isPart ver_each_i3
  simp only [jp_eq]
  rw [forL_all partB (fun i x nx k => by
    unfold ver_isPart_1 partB ver_isSmall ver_isDigit smallB digitB
    simp only [call_some, callG_some, orG3]
    rw [condN, Bool.not_not])]
  simp only [condS, call_some]
  unfold partOk
  cases s.all partB <;> rfl
/-- What a path is: all its parts are good, and it is not long. -/
def pathOk (s : Str) : Bool := (splitAt 47 s).all partOk && decide ((s.length : Int) ≤ 200)
theorem R_IsPath_eq (s : Str) (hs : s.length ≤ 17179869184) : R_IsPath s = some (pathOk s) := by
  unfold R_IsPath pathOk
  simp only [jp_eq, split_eq s 47 hs, call_some]
  rw [forL_all partOk (fun i x nx k => by rw [R_isPart_eq, call_some, condN, Bool.not_not])]
  cases (splitAt 47 s).all partOk <;> rfl
theorem ver_IsPath_eq (s : Str) (hs : s.length ≤ 17179869184) : ver_IsPath s = some (pathOk s) := by
  unfold ver_IsPath pathOk
  simp only [jp_eq, split_eq s 47 hs, call_some]
  rw [forL_all partOk (fun i x nx k => by rw [ver_isPart_eq, call_some, condN, Bool.not_not])]
  cases (splitAt 47 s).all partOk <;> rfl
theorem when_eq (b : Bool) (e : Int) : R_when b e = some (bif b then e else 0) := by cases b <;> rfl
def or2 (a b : Int) : Int := bif !decide (a = 0) then a else b
theorem first1 (a : Int) : R_first [a] = some a := by
  unfold R_first
  simp only [jp_eq, forL]
  by_cases h : a = 0
  · subst h; rfl
  · rw [decide_eq_false h]; rfl
theorem first_cons (a : Int) (l : List Int) (r : Int) (h : R_first l = some r) : R_first (a :: l) = some (or2 a r) := by
  unfold R_first at *
  simp only [jp_eq, forL] at *
  unfold or2
  by_cases ha : a = 0
  · subst ha
    simp only [decide_true, Bool.not_true, cond_false]
    rw [← h]
    have : ∀ (l : List Int) (i j : Nat), forL l i (fun i_14 e_16 s nx_13 k_12 => bif !decide (e_16 = 0) then some e_16 else nx_13 ()) () (fun _ => some (0 : Int)) = forL l j (fun i_14 e_16 s nx_13 k_12 => bif !decide (e_16 = 0) then some e_16 else nx_13 ()) () (fun _ => some (0 : Int)) := by
      intro l
      induction l with
      | nil => intro i j; rfl
      | cons x l ih => intro i j; unfold forL; simp only [ih (i + 1) (j + 1)]
    exact this l _ _
  · rw [decide_eq_false ha]; rfl
theorem first2 (a b : Int) : R_first [a, b] = some (or2 a b) := first_cons a _ _ (first1 b)
def eSet (s : api_Setting) : Int := bif !pathOk s.Key then 5 else bif !valueOk s.Value then 2 else 0
def eFile (f : api_File) : Int := bif !pathOk f.Path then 5 else bif decide (65536 < (f.Data.length : Int)) then 4 else 0
def eSvc (s : api_Service) : Int := bif !nameOk s.Name || !pathOk s.Path then 5 else 0
section
variable {Z α : Type} {e : α → Int} {nm : α → Str}
end
/-- What may be asked of the paths here. -/
def Sm (s : Str) : Prop := s.length ≤ 17179869184
theorem R_fileError_eq (f : api_File) (h : Sm f.Path) : R_fileError f = some (eFile f) := by
  unfold R_fileError
  rw [R_IsPath_eq _ h]
  simp only [call_some, when_eq, first2]
  unfold eFile or2
  cases pathOk f.Path <;> rfl
theorem R_settingError_eq (f : api_Setting) (h : Sm f.Key) : R_settingError f = some (eSet f) := by
  unfold R_settingError
  rw [R_IsPath_eq _ h, R_IsValue_eq]
  simp only [call_some, when_eq, first2]
  unfold eSet or2
  cases pathOk f.Key <;> rfl
theorem R_serviceError_eq (f : api_Service) (h : Sm f.Path) : R_serviceError f = some (eSvc f) := by
  unfold R_serviceError
  rw [R_IsPath_eq _ h, R_IsName_eq]
  simp only [call_some, callG_some, when_eq]
  unfold eSvc
  cases nameOk f.Name <;> cases pathOk f.Path <;> rfl
theorem D_fileFault_eq (f : api_File) (h : Sm f.Path) : disk_fileFault f = some (eFile f) := by
  unfold disk_fileFault
  rw [ver_IsPath_eq _ h]
  simp only [call_some]
  unfold eFile
  cases pathOk f.Path
  · rfl
  · simp only [Bool.not_true, cond_false, condS]
theorem D_svc_eq (f : api_Service) (h : Sm f.Path) : disk_serviceFault f = some (eSvc f) := by
  unfold disk_serviceFault
  rw [ver_IsPath_eq _ h, ver_IsName_eq]
  simp only [call_some, callG_some]
  unfold eSvc
  cases nameOk f.Name <;> cases pathOk f.Path <;> rfl
/-! ### the files -/
abbrev wFact : Str := [102, 97, 99, 116]
abbrev wSet : Str := [115, 101, 116]
abbrev wFile : Str := [102, 105, 108, 101]
abbrev wRun : Str := [114, 117, 110]
abbrev wPut : Str := [112, 117, 116]
abbrev wPutrun : Str := [112, 117, 116, 114, 117, 110]
abbrev wService : Str := [115, 101, 114, 118, 105, 99, 101]
abbrev wRemove : Str := [114, 101, 109, 111, 118, 101]
abbrev wUnset : Str := [117, 110, 115, 101, 116]
abbrev wDrop : Str := [100, 114, 111, 112]
def noFile : api_File := ⟨[], [], false⟩
def noSet : api_Setting := ⟨[], []⟩
def noSvc : api_Service := ⟨[], [], false, false⟩
def bitS (s : Str) : Bool := decide (s = ([48] : Str)) || decide (s = ([49] : Str))
def svc3 (k : Str) : List Str → Option api_Service
  | [a, b, c] => bif (decide (a = []) || !bitS b) || !bitS c then none else some ⟨k, a, decide (b = ([49] : Str)), decide (c = ([49] : Str))⟩
  | _ => none
/-- A line's words: the word, what stands behind it; the key, the value, and whether there is one. -/
def wordOf (l : Str) : Str := (cutAt 32 l).1
def restOf (l : Str) : Str := (cutAt 32 l).2.1
def keyOf (l : Str) : Str := (cutAt 32 (restOf l)).1
def valOf (l : Str) : Str := (cutAt 32 (restOf l)).2.1
def twoOf (l : Str) : Bool := (cutAt 32 (restOf l)).2.2
def readS (l : Str) : disk_line × Bool :=
  let w := wordOf l; let k := keyOf l; let u := unqS (valOf l)
  bif !(cutAt 32 l).2.2 || decide (k = []) then (⟨[], noFile, noSet, noSvc⟩, false) else
  bif decide (w = wFact) || decide (w = wSet) then (⟨w, noFile, ⟨k, u.1⟩, noSvc⟩, twoOf l && decide (u.2 = 0)) else
  bif ((decide (w = wFile) || decide (w = wRun)) || decide (w = wPut)) || decide (w = wPutrun) then (⟨w, ⟨k, u.1, decide (w = wRun) || decide (w = wPutrun)⟩, noSet, noSvc⟩, twoOf l && decide (u.2 = 0)) else
  bif decide (w = wService) then (match twoOf l, svc3 k (splitAt 32 (valOf l)) with
    | true, some s => (⟨w, noFile, noSet, s⟩, true)
    | _, _ => (⟨[], noFile, noSet, noSvc⟩, false)) else
  bif decide (w = wRemove) then (⟨w, ⟨k, [], false⟩, noSet, noSvc⟩, !twoOf l) else
  bif decide (w = wUnset) then (⟨w, noFile, ⟨k, []⟩, noSvc⟩, !twoOf l) else
  bif decide (w = wDrop) then (⟨w, noFile, noSet, ⟨k, [], false, false⟩⟩, !twoOf l) else
  (⟨w, noFile, noSet, noSvc⟩, !twoOf l)
theorem len3 {p : List Str} (h : p.length = 3) : ∃ a b c, p = [a, b, c] := by
  rcases p with _ | ⟨a, _ | ⟨b, _ | ⟨c, _ | ⟨d, p⟩⟩⟩⟩ <;> simp at h
  exact ⟨a, b, c, rfl⟩
theorem readLine_eq (l : Str) (hl : l.length ≤ 17179869184) : disk_readLine l = some (readS l) := by
  have h1 := cutAt_len 32 l
  have h2 := cutAt_len 32 (restOf l)
  unfold disk_readLine
  rw [cut_eq l 32 (by omega), call_some, cut_eq _ 32 (by omega), call_some]
  rw [show (cutAt 32 l).1 = wordOf l from rfl, show (cutAt 32 l).2.1 = restOf l from rfl] at *
  rw [show (cutAt 32 (restOf l)).1 = keyOf l from rfl, show (cutAt 32 (restOf l)).2.1 = valOf l from rfl, show (cutAt 32 (restOf l)).2.2 = twoOf l from rfl] at *
  unfold readS
  have hv : (valOf l).length ≤ 17179869184 := by omega
  simp only [disk_Unquote_eq _ hv, split_eq _ 32 hv, call_some, jp_eq]
  generalize wordOf l = w
  generalize keyOf l = k
  generalize valOf l = v
  generalize twoOf l = two
  cases (!(cutAt 32 l).2.2 || decide (k = []))
  rotate_left
  · rfl
  simp only [cond_false]
  cases e1 : decide (w = wFact)
  rotate_left
  · rfl
  simp only [cond_false, Bool.false_or]
  cases e2 : decide (w = wSet)
  rotate_left
  · rfl
  simp only [cond_false]
  cases e3 : decide (w = wFile)
  rotate_left
  · simp only [cond_true, Bool.true_or]; rfl
  simp only [cond_false, Bool.false_or]
  cases e4 : decide (w = wRun)
  rotate_left
  · simp only [cond_true, Bool.true_or]; rfl
  simp only [cond_false, Bool.false_or]
  cases e5 : decide (w = wPut)
  rotate_left
  · simp only [cond_true, Bool.true_or]; rfl
  simp only [cond_false, Bool.false_or]
  cases e6 : decide (w = wPutrun)
  rotate_left
  · simp only [cond_true]; rfl
  simp only [cond_false]
  cases e7 : decide (w = wService)
  rotate_left
  · simp only [cond_true]
    by_cases h3 : (splitAt 32 v).length = 3
    · obtain ⟨a, b, c, hp⟩ := len3 h3
      rw [hp]
      simp only [disk_isBit, callG_some]
      cases two
      · simp only [Bool.not_false, Bool.true_or, Bool.not_true, cond_true]
        rw [chk_true (by intro h; cases h), chk_true (by intro h; cases h), chk_true (by intro h; cases h)]
        rfl
      · rw [chk_true (by intro _; simp), chk_true (by intro _; simp), chk_true (by intro _; simp)]
        simp only [show decide ((([a, b, c] : List Str).length : Int) = 3) = true from rfl, Bool.not_true, Bool.or_self, Bool.false_or, show ([a, b, c] : List Str).getD 0 [] = a from rfl, show ([a, b, c] : List Str).getD 1 [] = b from rfl, show ([a, b, c] : List Str).getD 2 [] = c from rfl]
        simp only [svc3]
        rw [show (decide (b = ([48] : Str)) || decide (b = ([49] : Str))) = bitS b from rfl, show (decide (c = ([48] : Str)) || decide (c = ([49] : Str))) = bitS c from rfl]
        cases decide (a = ([] : Str))
        · cases bitS b
          · rfl
          · cases bitS c
            · rfl
            · simp only [Bool.not_false, Bool.not_true, cond_true, cond_false, Bool.or_self]
              show idx [a, b, c] ((0 : Nat) : Int) _ = _
              rw [idx_eq (by simp)]
              show idx [a, b, c] ((1 : Nat) : Int) _ = _
              rw [idx_eq (by simp)]
              show idx [a, b, c] ((2 : Nat) : Int) _ = _
              rw [idx_eq (by simp)]
              rfl
        · rfl
    · have hd : decide (((splitAt 32 v).length : Int) = 3) = false := by simp only [decide_eq_false_iff_not]; omega
      have hs : svc3 k (splitAt 32 v) = none := by
        unfold svc3
        split
        · rename_i h; rw [h] at h3; simp at h3
        · rfl
      rw [hd, hs]
      simp only [Bool.not_false, Bool.or_true, Bool.not_true, Bool.true_or, callG_false, callG_some, cond_true, cond_false]
      rw [chk_true (by intro h; cases h), chk_true (by intro h; cases h), chk_true (by intro h; cases h)]
      cases two <;> rfl
  simp only [cond_false]
  cases e8 : decide (w = wRemove)
  rotate_left
  · rfl
  simp only [cond_false]
  cases e9 : decide (w = wUnset)
  rotate_left
  · rfl
  simp only [cond_false]
  cases e10 : decide (w = wDrop)
  rotate_left
  · rfl
  rfl
def svc4 : List Str → Option api_Service
  | n :: r => bif decide (n = []) then none else svc3 n r
  | [] => none
theorem len4 {p : List Str} (h : p.length = 4) : ∃ a b c d, p = [a, b, c, d] := by
  rcases p with _ | ⟨a, _ | ⟨b, _ | ⟨c, _ | ⟨d, _ | ⟨e, p⟩⟩⟩⟩⟩ <;> simp at h
  exact ⟨a, b, c, d, rfl⟩
def svcR (o : Option api_Service) : api_Service × Bool := match o with
  | some s => (s, true)
  | none => (noSvc, false)
theorem bit_not (s : Str) : (!decide (s = ([48] : Str)) && !decide (s = ([49] : Str))) = !bitS s := by
  unfold bitS
  cases decide (s = ([48] : Str)) <;> cases decide (s = ([49] : Str)) <;> rfl
theorem serviceOf_eq (p : List Str) : R_serviceOf p = some (svcR (svc4 p)) := by
  unfold R_serviceOf
  by_cases h4 : p.length = 4
  · obtain ⟨a, b, c, d, rfl⟩ := len4 h4
    rw [chk_true (by intro _; simp), chk_true (by intro _; simp), chk_true (by intro _; simp), chk_true (by intro _; simp), chk_true (by intro _; simp), chk_true (by intro _; simp)]
    rw [show decide ((([a, b, c, d] : List Str).length : Int) = 4) = true from rfl]
    simp only [Bool.not_true, Bool.false_or, show ([a, b, c, d] : List Str).getD 0 [] = a from rfl, show ([a, b, c, d] : List Str).getD 1 [] = b from rfl, show ([a, b, c, d] : List Str).getD 2 [] = c from rfl, show ([a, b, c, d] : List Str).getD 3 [] = d from rfl, bit_not]
    simp only [svc4, svc3]
    cases decide (a = ([] : Str))
    · cases decide (b = ([] : Str))
      · cases bitS c
        · rfl
        · cases bitS d
          · rfl
          · simp only [Bool.not_true, Bool.or_self, cond_false]
            show idx [a, b, c, d] ((0 : Nat) : Int) _ = _
            rw [idx_eq (by simp)]
            show idx [a, b, c, d] ((1 : Nat) : Int) _ = _
            rw [idx_eq (by simp)]
            show idx [a, b, c, d] ((2 : Nat) : Int) _ = _
            rw [idx_eq (by simp)]
            show idx [a, b, c, d] ((3 : Nat) : Int) _ = _
            rw [idx_eq (by simp)]
            rfl
      · rfl
    · rfl
  · have hd : decide ((p.length : Int) = 4) = false := by simp only [decide_eq_false_iff_not]; omega
    rw [hd]
    simp only [Bool.not_false, Bool.not_true, Bool.true_or, Bool.false_and, cond_true]
    rw [chk_true (by intro h; cases h), chk_true (by intro h; cases h), chk_true (by intro h; cases h), chk_true (by intro h; cases h), chk_true (by intro h; cases h), chk_true (by intro h; cases h)]
    have : svc4 p = none := by
      cases p with
      | nil => rfl
      | cons n r =>
        simp only [svc4]
        cases decide (n = [])
        · simp only [cond_false]
          unfold svc3
          split
          · simp at h4
          · rfl
        · rfl
    rw [this]; rfl
theorem quotedR_eq (s : Str) (hs : s.length ≤ 17179869184) : R_quoted s = some ((cutAt 32 s).1, (unqS (cutAt 32 s).2.1).1, ((cutAt 32 s).2.2 && (!decide ((cutAt 32 s).1 = []))) && decide ((unqS (cutAt 32 s).2.1).2 = 0)) := by
  have h1 := cutAt_len 32 s
  unfold R_quoted
  rw [cut_eq s 32 (by omega), call_some, R_Unquote_eq _ (by omega), call_some]
/-- The words behind a line's word, read as a service. -/
theorem svc4_rest (l : Str) : svc4 (splitAt 32 (restOf l)) = bif twoOf l && !decide (keyOf l = []) then svc3 (keyOf l) (splitAt 32 (valOf l)) else none := by
  rw [splitAt_cut]
  rw [show (cutAt 32 (restOf l)).1 = keyOf l from rfl, show (cutAt 32 (restOf l)).2.1 = valOf l from rfl, show (cutAt 32 (restOf l)).2.2 = twoOf l from rfl]
  cases twoOf l
  · rw [if_neg (by simp)]
    simp only [svc4, Bool.false_and, cond_false]
    cases decide (restOf l = []) <;> rfl
  · rw [if_pos rfl]
    simp only [svc4, Bool.true_and]
    cases decide (keyOf l = []) <;> rfl
/-- Without a space there is no key. -/
theorem key_none {l : Str} (h : (cutAt 32 l).2.2 = false) : keyOf l = [] := by
  by_cases hm : (32 : UInt8) ∈ l
  · rw [(cutAt_some hm).1] at h; cases h
  · unfold keyOf restOf
    rw [cutAt_none hm]; rfl
theorem svc3_len {k : Str} {p : List Str} {s : api_Service} (h : svc3 k p = some s) : ∃ x ∈ p, s.Path = x := by
  unfold svc3 at h
  split at h
  · rename_i a b c
    cases hq : (decide (a = []) || !bitS b) || !bitS c
    · rw [hq, cond_false] at h
      have := (Option.some.inj h).symm
      exact ⟨a, by simp, by rw [this]⟩
    · rw [hq] at h; cases h
  · cases h
theorem keyOf_len (l : Str) : (keyOf l).length ≤ l.length ∧ (valOf l).length ≤ l.length := by
  have h1 := cutAt_len 32 l
  have h2 := cutAt_len 32 (restOf l)
  have : (restOf l).length ≤ l.length := h1.2.1
  unfold keyOf valOf
  omega
/-! ### the program -/
/-! ### the reference -/
theorem cutLines_eq (text : Str) (ht : text.length ≤ 4294967296) : ∃ L torn tail, R_cutLines text = some (L, torn) ∧ splitAt 10 text = L ++ tail ∧ ((torn = -1 ∧ tail = [[]]) ∨ (tail = [] ∧ ((L = [] ∧ False) ∨ torn = ((0 + L.length - 1 : Nat) : Int)) ∧ L ≠ [] ∧ (∀ h : L ≠ [], L.getLast h ≠ []))) := by
  unfold R_cutLines
  rw [split_eq text 10 (by omega), call_some]
  have hne := splitAt_ne 10 text
  have hl := splitAt_length 10 text
  have hc := List.count_le_length (a := (10 : UInt8)) (l := text)
  have hpos := List.length_pos_iff.2 hne
  rw [wrapm1 _ hpos (by omega), idx_eq (by omega)]
  have hlast : (splitAt 10 text)[(splitAt 10 text).length - 1]'(by omega) = (splitAt 10 text).getLast hne := (List.getLast_eq_getElem hne).symm
  rw [hlast]
  by_cases he : (splitAt 10 text).getLast hne = []
  · rw [decide_eq_true he, cond_true, chk_true (by omega)]
    refine ⟨_, _, [[]], rfl, ?_, .inl ⟨rfl, rfl⟩⟩
    rw [Int.toNat_natCast, ← List.dropLast_eq_take, ← he]
    exact (List.dropLast_concat_getLast hne).symm
  · rw [decide_eq_false he, cond_false]
    exact ⟨_, _, [], rfl, (List.append_nil _).symm, .inr ⟨rfl, .inr (by rw [Nat.zero_add]), hne, fun _ => he⟩⟩
/-! ### the law -/
theorem same_loop {α : Type} (l : List α) (q : α → α → Bool) (hq : ∀ x, q x x = true) : ∀ (r : List α) (i : Nat), l.drop i = r → forL r i (fun i x (_ : Unit) nx (_ : Unit → Option Bool) => idx l (i : Int) fun y => bif !q x y then some false else nx ()) () (fun _ => some true) = some true
  | [], i, _ => rfl
  | x :: r, i, hd => by
    have hi : i < l.length := by
      rcases Nat.lt_or_ge i l.length with h | h
      · exact h
      · rw [List.drop_eq_nil_of_le h] at hd; cases hd
    have hx : l[i] = x := by
      have := List.drop_eq_getElem_cons hi
      rw [hd] at this
      exact (List.cons.inj this).1.symm
    have hd' : l.drop (i + 1) = r := by
      have := congrArg List.tail hd
      simpa using this
    unfold forL
    simp only [idx_eq hi, hx, hq, Bool.not_true, cond_false]
    exact same_loop l q hq r (i + 1) hd'
/-- The error of what a change of its kind needs. -/
def eNeed (c : api_Change) : Int :=
  bif decide (c.Kind = 1) then eFile c.File else
  bif decide (c.Kind = 2) then (bif !pathOk c.File.Path then 5 else 0) else
  bif decide (c.Kind = 3) then eSet c.Setting else
  bif decide (c.Kind = 4) then (bif !pathOk c.Setting.Key then 5 else 0) else
  bif decide (c.Kind = 5) then eSvc c.Service else
  bif !nameOk c.Service.Name then 5 else 0
/-- What a change keeps that its kind needs. -/
def keptC (c : api_Change) : api_Change :=
  bif decide (c.Kind = 1) then ⟨c.Kind, c.File, noSet, noSvc⟩ else
  bif decide (c.Kind = 2) then ⟨c.Kind, ⟨c.File.Path, [], false⟩, noSet, noSvc⟩ else
  bif decide (c.Kind = 3) then ⟨c.Kind, noFile, c.Setting, noSvc⟩ else
  bif decide (c.Kind = 4) then ⟨c.Kind, noFile, ⟨c.Setting.Key, []⟩, noSvc⟩ else
  bif decide (c.Kind = 5) then ⟨c.Kind, noFile, noSet, c.Service⟩ else
  ⟨c.Kind, noFile, noSet, ⟨c.Service.Name, [], false, false⟩⟩
def isKind (c : api_Change) : Bool := decide (1 ≤ c.Kind) && decide (c.Kind ≤ 6)
def eqFile (a b : api_File) : Bool := decide (a.Path = b.Path) && (decide (a.Data = b.Data) && decide (a.Runs = b.Runs))
def eqSet (a b : api_Setting) : Bool := decide (a.Key = b.Key) && decide (a.Value = b.Value)
def eqSvc (a b : api_Service) : Bool := decide (a.Name = b.Name) && (decide (a.Path = b.Path) && (decide (a.Auto = b.Auto) && decide (a.On = b.On)))
def eqC (a b : api_Change) : Bool := (eqFile a.File b.File && (eqSet a.Setting b.Setting && eqSvc a.Service b.Service))
theorem eqFile_eq {a b : api_File} (h : eqFile a b = true) : a = b := by
  obtain ⟨a1, a2, a3⟩ := a
  obtain ⟨b1, b2, b3⟩ := b
  simp only [eqFile, Bool.and_eq_true, decide_eq_true_eq] at h
  obtain ⟨rfl, rfl, rfl⟩ := h; rfl
theorem eqSet_eq {a b : api_Setting} (h : eqSet a b = true) : a = b := by
  obtain ⟨a1, a2⟩ := a
  obtain ⟨b1, b2⟩ := b
  simp only [eqSet, Bool.and_eq_true, decide_eq_true_eq] at h
  obtain ⟨rfl, rfl⟩ := h; rfl
theorem eqSvc_eq {a b : api_Service} (h : eqSvc a b = true) : a = b := by
  obtain ⟨a1, a2, a3, a4⟩ := a
  obtain ⟨b1, b2, b3, b4⟩ := b
  simp only [eqSvc, Bool.and_eq_true, decide_eq_true_eq] at h
  obtain ⟨rfl, rfl, rfl, rfl⟩ := h; rfl
theorem eqC_eq {a b : api_Change} (hk : a.Kind = b.Kind) (h : eqC a b = true) : a = b := by
  obtain ⟨a0, a1, a2, a3⟩ := a
  obtain ⟨b0, b1, b2, b3⟩ := b
  simp only [eqC, Bool.and_eq_true] at h
  obtain ⟨h1, h2, h3⟩ := h
  simp only at hk
  rw [hk, eqFile_eq h1, eqSet_eq h2, eqSvc_eq h3]
/-- The error of a change. -/
def eCh (c : api_Change) : Int := bif !isKind c then 1 else bif decide (eNeed c = 0) && !eqC c (keptC c) then 2 else eNeed c
structure SmC (c : api_Change) : Prop where
  fp : Sm c.File.Path
  sp : Sm c.Setting.Key
  vp : Sm c.Service.Path
theorem D_set2 (f : api_Setting) (h : Sm f.Key) : disk_settingFault_i2 f = some (eSet f) := by
  unfold disk_settingFault_i2
  rw [ver_IsPath_eq _ h, ver_IsValue_eq]
  simp only [call_some]
  unfold eSet
  cases pathOk f.Key <;> cases valueOk f.Value <;> rfl
theorem value_nil : valueOk [] = true := rfl
theorem eFile_nil (p : Str) : eFile ⟨p, [], false⟩ = bif !pathOk p then 5 else 0 := by
  unfold eFile
  cases pathOk p <;> rfl
theorem eSet_nil (p : Str) : eSet ⟨p, []⟩ = bif !pathOk p then 5 else 0 := by
  unfold eSet
  simp only [value_nil]
  cases pathOk p <;> rfl
theorem kinds6 {n : Int} (h : (decide (1 ≤ n) && decide (n ≤ 6)) = true) : n = 1 ∨ n = 2 ∨ n = 3 ∨ n = 4 ∨ n = 5 ∨ n = 6 := by
  simp only [Bool.and_eq_true, decide_eq_true_eq] at h
  omega
theorem kinds0 {n : Int} (h : (decide (1 ≤ n) && decide (n ≤ 6)) = false) : decide (n = 1) = false ∧ decide (n = 2) = false ∧ decide (n = 3) = false ∧ decide (n = 4) = false ∧ decide (n = 5) = false ∧ decide (n = 6) = false := by
  simp only [Bool.and_eq_false_iff, decide_eq_false_iff_not] at h
  refine ⟨?_, ?_, ?_, ?_, ?_, ?_⟩ <;> (simp only [decide_eq_false_iff_not]; omega)
theorem D_change_eq (c : api_Change) (h : SmC c) : disk_CheckChange c = some (eCh c) := by
  unfold disk_CheckChange eCh isKind
  simp only [jp_eq]
  cases hk : decide (1 ≤ c.Kind) && decide (c.Kind ≤ 6)
  · obtain ⟨h1, h2, h3, h4, h5, h6⟩ := kinds0 hk
    rw [h1, h2, h3, h4, h5, h6]
    rfl
  · simp only [Bool.not_true, cond_false]
    rw [D_fileFault_eq _ h.fp, D_fileFault_eq _ (show Sm (api_File.mk c.File.Path [] false).Path from h.fp), D_set2 _ h.sp, D_set2 _ (show Sm (api_Setting.mk c.Setting.Key []).Key from h.sp), D_svc_eq _ h.vp, ver_IsName_eq]
    simp only [call_some, eFile_nil, eSet_nil, decide_true, Bool.true_and]
    unfold eNeed keptC
    rcases kinds6 hk with e | e | e | e | e | e
    all_goals
      rw [e]
      simp only [show decide ((1 : Int) = 1) = true from rfl, show decide ((2 : Int) = 1) = false from rfl, show decide ((2 : Int) = 2) = true from rfl, show decide ((3 : Int) = 1) = false from rfl, show decide ((3 : Int) = 2) = false from rfl, show decide ((3 : Int) = 3) = true from rfl, show decide ((4 : Int) = 1) = false from rfl, show decide ((4 : Int) = 2) = false from rfl, show decide ((4 : Int) = 3) = false from rfl, show decide ((4 : Int) = 4) = true from rfl,
        show decide ((5 : Int) = 1) = false from rfl, show decide ((5 : Int) = 2) = false from rfl, show decide ((5 : Int) = 3) = false from rfl, show decide ((5 : Int) = 4) = false from rfl, show decide ((5 : Int) = 5) = true from rfl, show decide ((6 : Int) = 1) = false from rfl, show decide ((6 : Int) = 2) = false from rfl, show decide ((6 : Int) = 3) = false from rfl, show decide ((6 : Int) = 4) = false from rfl, show decide ((6 : Int) = 5) = false from rfl, show decide ((6 : Int) = 6) = true from rfl, decide_true, cond_true, cond_false]
      simp only [condS, eqC, eqFile, eqSet, eqSvc, noFile, noSet, noSvc, decide_true, Bool.true_and, Bool.and_true, Bool.and_assoc]
    · rfl
    · rfl
    · rfl
    · rfl
    · rfl
    · cases nameOk c.Service.Name <;> rfl
theorem or2_when (a : Int) (q : Bool) : or2 a (bif !q then 2 else 0) = bif decide (a = 0) && !q then 2 else a := by
  unfold or2
  by_cases h : a = 0
  · subst h; cases q <;> rfl
  · rw [decide_eq_false h]; rfl
theorem R_change_eq (c : api_Change) (h : SmC c) : R_ChangeError c = some (eCh c) := by
  unfold R_ChangeError eCh isKind
  simp only [jp_eq]
  cases hk : decide (1 ≤ c.Kind) && decide (c.Kind ≤ 6)
  · obtain ⟨h1, h2, h3, h4, h5, h6⟩ := kinds0 hk
    rw [h1, h2, h3, h4, h5, h6]
    rfl
  · simp only [Bool.not_true, cond_false]
    rw [R_fileError_eq _ h.fp, R_settingError_eq _ h.sp, R_serviceError_eq _ h.vp, R_IsName_eq, R_IsPath_eq _ h.fp, R_IsPath_eq _ h.sp]
    simp only [call_some, when_eq, first2, decide_true, Bool.true_and, or2_when]
    unfold eNeed keptC
    rcases kinds6 hk with e | e | e | e | e | e
    all_goals
      rw [e]
      simp only [show decide ((1 : Int) = 1) = true from rfl, show decide ((2 : Int) = 1) = false from rfl, show decide ((2 : Int) = 2) = true from rfl, show decide ((3 : Int) = 1) = false from rfl, show decide ((3 : Int) = 2) = false from rfl, show decide ((3 : Int) = 3) = true from rfl, show decide ((4 : Int) = 1) = false from rfl, show decide ((4 : Int) = 2) = false from rfl, show decide ((4 : Int) = 3) = false from rfl, show decide ((4 : Int) = 4) = true from rfl,
        show decide ((5 : Int) = 1) = false from rfl, show decide ((5 : Int) = 2) = false from rfl, show decide ((5 : Int) = 3) = false from rfl, show decide ((5 : Int) = 4) = false from rfl, show decide ((5 : Int) = 5) = true from rfl, show decide ((6 : Int) = 1) = false from rfl, show decide ((6 : Int) = 2) = false from rfl, show decide ((6 : Int) = 3) = false from rfl, show decide ((6 : Int) = 4) = false from rfl, show decide ((6 : Int) = 5) = false from rfl, show decide ((6 : Int) = 6) = true from rfl, decide_true, cond_true, cond_false]
      simp only [condS, eqC, eqFile, eqSet, eqSvc, noFile, noSet, noSvc, decide_true, Bool.true_and, Bool.and_true, Bool.and_assoc]
    · rfl
    · rfl
    · rfl
    · rfl
    · rfl
    · rfl
/-- The first error of changes. -/
def eChs : List api_Change → Int
  | [] => 0
  | c :: l => bif !decide (eCh c = 0) then eCh c else eChs l
theorem D_changes_eq : ∀ (l : List api_Change), (∀ c ∈ l, SmC c) → disk_changesFault l = some (eChs l) := by
  intro l hl
  unfold disk_changesFault
  simp only [jp_eq]
  refine forL_run (fun i l (_ : Unit) => ∀ c ∈ l, SmC c) (fun i l _ => some (eChs l)) (fun i s h => rfl) (fun i c l s nx h hnx => ?_) l 0 () hl
  rw [D_change_eq c (h c (List.mem_cons_self ..)), call_some, hnx () (fun d hd => h d (List.mem_cons_of_mem _ hd))]
  simp only [eChs, condS]
theorem R_changes_eq : ∀ (l : List api_Change), (∀ c ∈ l, SmC c) → R_ChangesError l = some (eChs l) := by
  intro l hl
  unfold R_ChangesError
  simp only [jp_eq]
  refine forL_run (fun i l (_ : Unit) => ∀ c ∈ l, SmC c) (fun i l _ => some (eChs l)) (fun i s h => rfl) (fun i c l s nx h hnx => ?_) l 0 () hl
  rw [R_change_eq c (h c (List.mem_cons_self ..)), call_some, hnx () (fun d hd => h d (List.mem_cons_of_mem _ hd))]
  simp only [eChs, condS]
theorem eChs_zero : ∀ {l : List api_Change}, eChs l = 0 → ∀ c ∈ l, eCh c = 0
  | [], _, c, hc => by cases hc
  | d :: l, h, c, hc => by
    simp only [eChs] at h
    cases hd : decide (eCh d = 0)
    · rw [hd] at h
      exact absurd h (of_decide_eq_false hd)
    · rw [hd] at h
      rcases List.mem_cons.1 hc with rfl | hc
      · exact of_decide_eq_true hd
      · exact eChs_zero h c hc
/-- A change without an error keeps what its kind needs, and no more. -/
theorem eCh_zero {c : api_Change} (h : eCh c = 0) : isKind c = true ∧ eNeed c = 0 ∧ c = keptC c := by
  unfold eCh at h
  cases hk : isKind c
  · rw [hk] at h; simp at h
  · rw [hk] at h
    simp only [Bool.not_true, cond_false] at h
    cases hq : decide (eNeed c = 0) && !eqC c (keptC c)
    · rw [hq, cond_false] at h
      rw [h] at hq
      simp only [decide_true, Bool.true_and, Bool.not_eq_false'] at hq
      refine ⟨rfl, h, eqC_eq ?_ hq⟩
      unfold keptC
      cases decide (c.Kind = 1) <;> cases decide (c.Kind = 2) <;> cases decide (c.Kind = 3) <;> cases decide (c.Kind = 4) <;> cases decide (c.Kind = 5) <;> rfl
    · rw [hq] at h; simp at h
def bitW (b : Bool) : Str := bif b then [49] else [48]
theorem D_bit (b : Bool) : disk_bit b = some (bitW b) := by cases b <;> rfl
theorem R_bit_eq (b : Bool) : R_bit b = some (bitW b) := by cases b <;> rfl
theorem bitW_len (b : Bool) : (bitW b).length = 1 := by cases b <;> rfl
def fileW (w : Str) (f : api_File) : Str := w ++ 32 :: (f.Path ++ 32 :: quoteS f.Data)
def setW (s : api_Setting) : Str := wSet ++ 32 :: (s.Key ++ 32 :: quoteS s.Value)
def svcW (s : api_Service) : Str := wService ++ 32 :: (s.Name ++ 32 :: (s.Path ++ 32 :: (bitW s.Auto ++ 32 :: bitW s.On)))
/-- The line of a change, without its end. -/
def lineC (c : api_Change) : Str :=
  bif decide (c.Kind = 1) then fileW (bif c.File.Runs then wPutrun else wPut) c.File else
  bif decide (c.Kind = 2) then wRemove ++ 32 :: c.File.Path else
  bif decide (c.Kind = 3) then setW c.Setting else
  bif decide (c.Kind = 4) then wUnset ++ 32 :: c.Setting.Key else
  bif decide (c.Kind = 5) then svcW c.Service else
  wDrop ++ 32 :: c.Service.Name
def printC (l : List api_Change) : Str := l.flatMap fun c => lineC c ++ [10]
theorem printC_cons (c : api_Change) (l : List api_Change) : printC (c :: l) = lineC c ++ [10] ++ printC l := by simp [printC]
theorem copy_np (o : Str) : strings_Builder_copyCheck_np o = some () := rfl
theorem write_eq (s o : Str) (h : (o ++ s).length ≤ 274877906944) : strings_Builder_WriteString_i1 s o = some ((s.length : Int), o ++ s) := by
  unfold strings_Builder_WriteString_i1
  rw [copy_np, call_some, chk_true h]
theorem writeB_eq (c : Int) (o : Str) (h : o.length < 274877906944) : strings_Builder_WriteByte_i1 c o = some (o ++ [UInt8.ofNat c.toNat]) := by
  unfold strings_Builder_WriteByte_i1
  rw [copy_np, call_some, chk_true (by simp [strOf]; omega)]
  rfl
theorem string_eq (o : Str) : strings_Builder_String_i1 o = some o := rfl
theorem settingLine_eq (s : api_Setting) (h : (setW s).length < 274877906944) (hv : s.Value.length ≤ 17179869184) : disk_settingLine wSet s = some (setW s ++ [10]) := by
  unfold disk_settingLine
  simp only [setW, List.length_append, List.length_cons] at h
  rw [chk_true (by simp), chk_true (by simp; omega), chk_true (by simp; omega), disk_Quote_eq _ hv, call_some, chk_true (by simp; omega), chk_true (by simp; omega)]
  simp [setW]
theorem fileLine_eq (w r : Str) (f : api_File) (h : (fileW (bif f.Runs then r else w) f).length < 274877906944) (hv : f.Data.length ≤ 17179869184) : disk_fileLine w r f = some (fileW (bif f.Runs then r else w) f ++ [10]) := by
  unfold disk_fileLine
  rw [jpC]
  generalize (bif f.Runs then r else w) = x at h
  simp only [fileW, List.length_append, List.length_cons] at h
  rw [chk_true (by simp; omega), chk_true (by simp; omega), chk_true (by simp; omega), disk_Quote_eq _ hv, call_some, chk_true (by simp; omega), chk_true (by simp; omega)]
  simp [fileW]
theorem serviceLine_eq (s : api_Service) (h : (svcW s).length < 274877906944) : disk_serviceLine s = some (svcW s ++ [10]) := by
  unfold disk_serviceLine
  have h1 := bitW_len s.Auto
  have h2 := bitW_len s.On
  simp only [svcW, List.length_append, List.length_cons, List.length_nil, h1, h2] at h
  rw [chk_true (by simp; omega), chk_true (by simp; omega), chk_true (by simp; omega), chk_true (by simp; omega), D_bit, call_some, chk_true (by simp; omega), chk_true (by simp; omega), D_bit, call_some, chk_true (by simp; omega), chk_true (by simp; omega)]
  simp [svcW]
theorem serviceWords_eq (s : api_Service) (h : (svcW s).length < 274877906944) : R_serviceWords s = some (s.Name ++ 32 :: (s.Path ++ 32 :: (bitW s.Auto ++ 32 :: bitW s.On))) := by
  unfold R_serviceWords
  have h1 := bitW_len s.Auto
  have h2 := bitW_len s.On
  simp only [svcW, List.length_append, List.length_cons, List.length_nil, h1, h2] at h
  rw [chk_true (by simp; omega), chk_true (by simp; omega), chk_true (by simp; omega), R_bit_eq, call_some, chk_true (by simp; omega), chk_true (by simp; omega), R_bit_eq, call_some, chk_true (by simp; omega)]
  simp
structure SmD (c : api_Change) : Prop where
  fd : c.File.Data.length ≤ 17179869184
  sv : c.Setting.Value.length ≤ 17179869184
theorem kindLast {n : Int} (h : (decide (1 ≤ n) && decide (n ≤ 6)) = true) (h1 : decide (n = 1) = false) (h2 : decide (n = 2) = false) (h3 : decide (n = 3) = false) (h4 : decide (n = 4) = false) (h5 : decide (n = 5) = false) : n = 6 := by
  simp only [Bool.and_eq_true, decide_eq_true_eq, decide_eq_false_iff_not] at *
  omega
/-- A text, if it is not too long. -/
def szd (t : Str) : Str × Int := bif decide (4194304 < (t.length : Int)) then ([], 4) else (t, 0)
theorem sized_eq (t : Str) : disk_sized t = some (szd t) := by unfold disk_sized szd; exact condS _ _ _
theorem D_print_loop (l : List api_Change) (hs : ∀ c ∈ l, SmD c) (ht : (printC l).length ≤ 137438953472) :
    disk_PrintChanges l = call (disk_changesFault l) fun e => bif !decide (e = 0) then some ([], e) else some (szd (printC l)) := by
  unfold disk_PrintChanges
  congr 1
  funext e
  congr 1
  simp only [jp_eq]
  refine (forL_run (fun i r (o : Str) => o.length + (printC r).length ≤ 137438953472 ∧ ∀ c ∈ r, SmD c) (fun i r o => some (szd (o ++ printC r))) (fun i o h => ?_) (fun i c r o nx h hnx => ?_) l 0 [] ⟨by simpa using ht, hs⟩).trans ?_
  · simp only [string_eq, call_some, sized_eq, show printC [] = [] from rfl, List.append_nil]
  · obtain ⟨h, hs⟩ := h
    have hc := hs c (List.mem_cons_self ..)
    have hr : ∀ d ∈ r, SmD d := fun d hd => hs d (List.mem_cons_of_mem _ hd)
    rw [printC_cons] at h ⊢
    unfold lineC at h ⊢
    simp only [List.length_append, List.length_cons, List.length_nil] at h
    cases h1 : decide (c.Kind = 1)
    · rw [h1] at h
      simp only [cond_false] at h ⊢
      cases h2 : decide (c.Kind = 2)
      · rw [h2] at h
        simp only [cond_false] at h ⊢
        cases h3 : decide (c.Kind = 3)
        · rw [h3] at h
          simp only [cond_false] at h ⊢
          cases h4 : decide (c.Kind = 4)
          · rw [h4] at h
            simp only [cond_false] at h ⊢
            cases h5 : decide (c.Kind = 5)
            · rw [h5] at h
              simp only [cond_false, List.length_append, List.length_cons, List.length_nil] at h ⊢
              rw [chk_true (by simp; omega), chk_true (by simp; omega), write_eq _ _ (by simp; omega), call_some, hnx _ ⟨by simp; omega, hr⟩]
              simp
            · rw [h5] at h
              simp only [cond_true] at h ⊢
              rw [serviceLine_eq _ (by omega), call_some, write_eq _ _ (by simp; omega), call_some, hnx _ ⟨by simp; omega, hr⟩]
              simp
          · rw [h4] at h
            simp only [cond_true, List.length_append, List.length_cons, List.length_nil] at h ⊢
            rw [chk_true (by simp; omega), chk_true (by simp; omega), write_eq _ _ (by simp; omega), call_some, hnx _ ⟨by simp; omega, hr⟩]
            simp
        · rw [h3] at h
          simp only [cond_true] at h ⊢
          rw [settingLine_eq _ (by omega) hc.sv, call_some, write_eq _ _ (by simp; omega), call_some, hnx _ ⟨by simp; omega, hr⟩]
          simp
      · rw [h2] at h
        simp only [cond_true, List.length_append, List.length_cons, List.length_nil] at h ⊢
        rw [chk_true (by simp; omega), chk_true (by simp; omega), write_eq _ _ (by simp; omega), call_some, hnx _ ⟨by simp; omega, hr⟩]
        simp
    · rw [h1] at h
      simp only [cond_true] at h ⊢
      rw [fileLine_eq wPut wPutrun _ (by omega) hc.fd, call_some, write_eq _ _ (by simp; omega), call_some, hnx _ ⟨by simp; omega, hr⟩]
      simp
  · rfl
theorem R_print_eq (l : List api_Change) (hs : ∀ c ∈ l, SmD c) (hk : ∀ c ∈ l, isKind c = true) (ht : (printC l).length ≤ 137438953472) : R_PrintChanges l = some (printC l) := by
  unfold R_PrintChanges
  simp only [jp_eq]
  refine (forL_run (fun i r (o : Str) => o.length + (printC r).length ≤ 137438953472 ∧ (∀ c ∈ r, SmD c) ∧ ∀ c ∈ r, isKind c = true) (fun i r o => some (o ++ printC r)) (fun i o h => ?_) (fun i c r o nx h hnx => ?_) l 0 [] ⟨by simpa using ht, hs, hk⟩).trans ?_
  · simp only [string_eq, call_some, show printC [] = [] from rfl, List.append_nil]
  · obtain ⟨h, hs, hk⟩ := h
    have hc := hs c (List.mem_cons_self ..)
    have hkc := hk c (List.mem_cons_self ..)
    have hr : ∀ d ∈ r, SmD d := fun d hd => hs d (List.mem_cons_of_mem _ hd)
    have hkr : ∀ d ∈ r, isKind d = true := fun d hd => hk d (List.mem_cons_of_mem _ hd)
    have fin : ∀ (o' w : Str), o' = o ++ w → o'.length + 1 + (printC r).length ≤ 137438953472 → (call (strings_Builder_WriteByte_i1 10 o') fun r_283 => nx r_283) = some (o ++ (w ++ [10] ++ printC r)) := by
      intro o' w he hl
      rw [writeB_eq _ _ (by omega), call_some, hnx _ ⟨by simp; omega, hr, hkr⟩, he]
      simp
    rw [printC_cons] at h ⊢
    unfold lineC at h ⊢
    simp only [List.length_append, List.length_cons, List.length_nil] at h
    cases h1 : decide (c.Kind = 1)
    · rw [h1] at h
      simp only [cond_false] at h ⊢
      cases h2 : decide (c.Kind = 2)
      · rw [h2] at h
        simp only [cond_false] at h ⊢
        cases h3 : decide (c.Kind = 3)
        · rw [h3] at h
          simp only [cond_false] at h ⊢
          cases h4 : decide (c.Kind = 4)
          · rw [h4] at h
            simp only [cond_false] at h ⊢
            cases h5 : decide (c.Kind = 5)
            · rw [h5] at h
              have h6 := kindLast hkc h1 h2 h3 h4 h5
              rw [decide_eq_true h6]
              simp only [cond_false, cond_true, List.length_append, List.length_cons, List.length_nil] at h ⊢
              rw [chk_true (by simp; omega), write_eq _ _ (by simp; omega), call_some]
              exact fin _ _ (by simp) (by simp; omega)
            · rw [h5] at h
              simp only [cond_true] at h ⊢
              rw [serviceWords_eq _ (by omega), call_some]
              simp only [svcW, List.length_append, List.length_cons, List.length_nil] at h
              rw [chk_true (by simp; omega), write_eq _ _ (by simp; omega), call_some]
              exact fin _ _ (by simp [svcW]) (by simp; omega)
          · rw [h4] at h
            simp only [cond_true, List.length_append, List.length_cons, List.length_nil] at h ⊢
            rw [chk_true (by simp; omega), write_eq _ _ (by simp; omega), call_some]
            exact fin _ _ (by simp) (by simp; omega)
        · rw [h3] at h
          simp only [cond_true, setW, List.length_append, List.length_cons, List.length_nil] at h ⊢
          rw [chk_true (by simp; omega), chk_true (by simp; omega), R_Quote_eq _ hc.sv, call_some, chk_true (by simp; omega), write_eq _ _ (by simp; omega), call_some]
          exact fin _ _ (by simp) (by simp; omega)
      · rw [h2] at h
        simp only [cond_true, List.length_append, List.length_cons, List.length_nil] at h ⊢
        rw [chk_true (by simp; omega), write_eq _ _ (by simp; omega), call_some]
        exact fin _ _ (by simp) (by simp; omega)
    · rw [h1] at h
      simp only [cond_true] at h ⊢
      cases hr' : c.File.Runs
      · rw [hr'] at h
        simp only [cond_false, fileW, List.length_append, List.length_cons, List.length_nil] at h ⊢
        rw [chk_true (by simp; omega), chk_true (by simp; omega), R_Quote_eq _ hc.fd, call_some, chk_true (by simp; omega), write_eq _ _ (by simp; omega), call_some]
        exact fin _ _ (by simp) (by simp; omega)
      · rw [hr'] at h
        simp only [cond_true, fileW, List.length_append, List.length_cons, List.length_nil] at h ⊢
        rw [chk_true (by simp; omega), chk_true (by simp; omega), R_Quote_eq _ hc.fd, call_some, chk_true (by simp; omega), write_eq _ _ (by simp; omega), call_some]
        exact fin _ _ (by simp) (by simp; omega)
  · rfl
def kindS (w : Str) : Int := bif decide (w = wPut) || decide (w = wPutrun) then 1 else bif decide (w = wRemove) then 2 else bif decide (w = wSet) then 3 else bif decide (w = wUnset) then 4 else bif decide (w = wService) then 5 else bif decide (w = wDrop) then 6 else 0
theorem kind_eq (w : Str) : disk_changeKind w = some (kindS w) := by
  unfold disk_changeKind kindS
  simp only [jp_eq]
  cases decide (w = wPut)
  · cases decide (w = wPutrun)
    · cases decide (w = wRemove)
      · cases decide (w = wSet)
        · cases decide (w = wUnset)
          · cases decide (w = wService)
            · cases decide (w = wDrop) <;> rfl
            · rfl
          · rfl
        · rfl
      · rfl
    · rfl
  · rfl
def chD (l : Str) : api_Change := ⟨kindS (readS l).1.word, (readS l).1.file, (readS l).1.setting, (readS l).1.service⟩
def okD (l : Str) : Bool := (readS l).2 && !decide (kindS (readS l).1.word = 0)
def stepC (l : Str) : Option api_Change := bif okD l then some (chD l) else none
theorem parseC1_eq (x : disk_line) (o : List api_Change) (h : o.length < 274877906944) : disk_ParseChanges_1_i1 x o = some (!decide (kindS x.word = 0), o ++ [⟨kindS x.word, x.file, x.setting, x.service⟩]) := by
  unfold disk_ParseChanges_1_i1
  rw [kind_eq, call_some, chk_true (by simp; omega)]
theorem rest_two (l : Str) (h : twoOf l = false) : keyOf l = restOf l := by
  unfold keyOf twoOf at *
  by_cases hm : (32 : UInt8) ∈ restOf l
  · rw [(cutAt_some hm).1] at h; cases h
  · rw [cutAt_none hm]
theorem rest_has (l : Str) : decide (0 ≤ ixb (restOf l) 32) = twoOf l := by
  unfold twoOf
  by_cases hm : (32 : UInt8) ∈ restOf l
  · rw [(cutAt_some hm).1, ixb_some hm]
    simp only [decide_eq_true_eq]; omega
  · rw [cutAt_none hm, ixb_none hm]; rfl
theorem contains_eq (s : Str) (c : UInt8) : strings_Contains s [c] = some (decide (0 ≤ ixb s c)) := by
  unfold strings_Contains
  rw [index_eq, call_some]
theorem rest_ne {l : Str} (h : restOf l ≠ []) : (cutAt 32 l).2.2 = true := by
  by_cases hm : (32 : UInt8) ∈ l
  · exact (cutAt_some hm).1
  · unfold restOf at h
    rw [cutAt_none hm] at h
    exact absurd rfl h
theorem key_rest (l : Str) (h : restOf l = []) : keyOf l = [] := by
  unfold keyOf
  rw [h]; rfl
/-- The words of lines. -/
theorem words (w : Str) : w = wPut ∨ w = wPutrun ∨ w = wRemove ∨ w = wSet ∨ w = wUnset ∨ w = wService ∨ w = wDrop ∨ w = wFact ∨ w = wFile ∨ w = wRun ∨
    (decide (w = wPut) = false ∧ decide (w = wPutrun) = false ∧ decide (w = wRemove) = false ∧ decide (w = wSet) = false ∧ decide (w = wUnset) = false ∧ decide (w = wService) = false ∧ decide (w = wDrop) = false ∧ decide (w = wFact) = false ∧ decide (w = wFile) = false ∧ decide (w = wRun) = false) := by
  by_cases h1 : w = wPut
  · exact .inl h1
  by_cases h2 : w = wPutrun
  · exact .inr (.inl h2)
  by_cases h3 : w = wRemove
  · exact .inr (.inr (.inl h3))
  by_cases h4 : w = wSet
  · exact .inr (.inr (.inr (.inl h4)))
  by_cases h5 : w = wUnset
  · exact .inr (.inr (.inr (.inr (.inl h5))))
  by_cases h6 : w = wService
  · exact .inr (.inr (.inr (.inr (.inr (.inl h6)))))
  by_cases h7 : w = wDrop
  · exact .inr (.inr (.inr (.inr (.inr (.inr (.inl h7))))))
  by_cases h8 : w = wFact
  · exact .inr (.inr (.inr (.inr (.inr (.inr (.inr (.inl h8)))))))
  by_cases h9 : w = wFile
  · exact .inr (.inr (.inr (.inr (.inr (.inr (.inr (.inr (.inl h9))))))))
  by_cases h10 : w = wRun
  · exact .inr (.inr (.inr (.inr (.inr (.inr (.inr (.inr (.inr (.inl h10)))))))))
  exact .inr (.inr (.inr (.inr (.inr (.inr (.inr (.inr (.inr (.inr ⟨decide_eq_false h1, decide_eq_false h2, decide_eq_false h3, decide_eq_false h4, decide_eq_false h5, decide_eq_false h6, decide_eq_false h7, decide_eq_false h8, decide_eq_false h9, decide_eq_false h10⟩)))))))))
/-- The reference reads a line as the program does. -/
theorem changeOf_eq (l : Str) (hl : l.length ≤ 17179869184) : ∃ c, R_changeOf l = some (c, okD l) ∧ (okD l = true → c = chD l) := by
  have h1 := cutAt_len 32 l
  unfold R_changeOf
  rw [cut_eq l 32 (by omega), call_some, show (cutAt 32 l).1 = wordOf l from rfl, show (cutAt 32 l).2.1 = restOf l from rfl]
  rw [show (cutAt 32 l).2.1 = restOf l from rfl] at h1
  rw [quotedR_eq _ (by omega), call_some, contains_eq, callG_some, rest_has, split_eq _ 32 (by omega)]
  simp only [call_some]
  rw [serviceOf_eq, svc4_rest]
  rw [show (cutAt 32 (restOf l)).1 = keyOf l from rfl, show (cutAt 32 (restOf l)).2.1 = valOf l from rfl, show (cutAt 32 (restOf l)).2.2 = twoOf l from rfl]
  simp only [jp_eq, call_some]
  unfold okD chD readS
  have hkn := key_none (l := l)
  have hrt := rest_two l
  have hrn := rest_ne (l := l)
  have hkr := key_rest l
  generalize (cutAt 32 l).2.2 = one at *
  generalize unqS (valOf l) = u
  generalize hs3 : svc3 (keyOf l) (splitAt 32 (valOf l)) = s3
  have hs3' : svc3 (keyOf l) (splitAt 32 (valOf l)) = s3 := hs3
  generalize wordOf l = w at *
  generalize keyOf l = k at *
  generalize twoOf l = two at *
  generalize restOf l = rest at *
  simp only [hs3]
  cases hpre : (!one || decide (k = []))
  · simp only [Bool.or_eq_false_iff, Bool.not_eq_false'] at hpre
    obtain ⟨rfl, hk⟩ := hpre
    have hrest : decide (rest = []) = false := by
      simp only [decide_eq_false_iff_not]
      intro hr
      have := hkr hr
      rw [this] at hk; simp at hk
    rw [hk, hrest]
    obtain ⟨u1, u2⟩ := u
    simp only
    rcases words w with rfl | rfl | rfl | rfl | rfl | rfl | rfl | rfl | rfl | rfl | ⟨n1, n2, n3, n4, n5, n6, n7, n8, n9, n10⟩
    · cases two <;> cases decide (u2 = 0) <;> exact ⟨_, rfl, fun _ => rfl⟩
    · cases two <;> cases decide (u2 = 0) <;> exact ⟨_, rfl, fun _ => rfl⟩
    · cases two
      · obtain rfl := hrt rfl
        exact ⟨_, rfl, fun _ => rfl⟩
      · exact ⟨_, rfl, fun h => by cases h⟩
    · cases two <;> cases decide (u2 = 0) <;> exact ⟨_, rfl, fun _ => rfl⟩
    · cases two
      · obtain rfl := hrt rfl
        exact ⟨_, rfl, fun _ => rfl⟩
      · exact ⟨_, rfl, fun h => by cases h⟩
    · cases two
      · exact ⟨_, rfl, fun h => by cases h⟩
      · cases s3 with
        | none => exact ⟨_, rfl, fun h => by cases h⟩
        | some s => exact ⟨_, rfl, fun _ => rfl⟩
    · cases two
      · obtain rfl := hrt rfl
        exact ⟨_, rfl, fun _ => rfl⟩
      · exact ⟨_, rfl, fun h => by cases h⟩
    · cases two <;> cases decide (u2 = 0) <;> exact ⟨_, rfl, fun h => by cases h⟩
    · cases two <;> cases decide (u2 = 0) <;> exact ⟨_, rfl, fun h => by cases h⟩
    · cases two <;> cases decide (u2 = 0) <;> exact ⟨_, rfl, fun h => by cases h⟩
    · have hkz : kindS w = 0 := by
        unfold kindS
        rw [n1, n2, n3, n4, n5, n6, n7]; rfl
      simp only [n1, n2, n3, n4, n5, n6, n7, n8, n9, n10, cond_false, Bool.or_self, Bool.not_true, hkz, decide_true, Bool.and_false, Bool.false_eq_true]
      exact ⟨_, rfl, fun h => h.elim⟩
  · have hk : decide (k = []) = true := by
      cases one
      · rw [hkn rfl]; rfl
      · simpa using hpre
    rw [hk]
    have hr : (!decide (rest = []) && !bif !decide (rest = []) then two else false) = false := by
      cases hd : decide (rest = [])
      · cases two
        · have := hrt rfl
          rw [← this, hk] at hd; cases hd
        · rfl
      · rfl
    rw [hr]
    obtain ⟨u1, u2⟩ := u
    simp only [cond_true, Bool.not_true, Bool.and_false, Bool.false_and, cond_false]
    rcases words w with rfl | rfl | rfl | rfl | rfl | rfl | rfl | rfl | rfl | rfl | ⟨n1, n2, n3, n4, n5, n6, n7, n8, n9, n10⟩
    all_goals first | exact ⟨_, rfl, fun h => by cases h⟩ | skip
    simp only [n1, n2, n3, n4, n5, n6, n7, n8, n9, n10, kindS]
    exact ⟨_, rfl, fun h => by cases h⟩
/-! ### the loops -/
def procC : Nat → List api_Change → List Str → Nat ⊕ List api_Change
  | _, o, [] => .inr o
  | n, o, [x] => bif decide (x = []) then .inr o else .inl n
  | n, o, x :: y :: r => match stepC x with
    | none => .inl n
    | some c => procC (n + 1) (o ++ [c]) (y :: r)
theorem procC_cons (n : Nat) (o : List api_Change) (x : Str) (r : List Str) (hr : r ≠ []) : procC n o (x :: r) = match stepC x with
    | none => .inl n
    | some c => procC (n + 1) (o ++ [c]) r := by
  cases r with
  | nil => exact absurd rfl hr
  | cons y r => simp only [procC] <;> (cases stepC x <;> rfl)
theorem stepC_some {l : Str} {c : api_Change} (h : stepC l = some c) : okD l = true ∧ c = chD l := by
  unfold stepC at h
  cases ho : okD l
  · rw [ho] at h; cases h
  · rw [ho] at h; exact ⟨rfl, (Option.some.inj h).symm⟩
theorem stepC_none {l : Str} (h : stepC l = none) : okD l = false := by
  unfold stepC at h
  cases ho : okD l
  · rfl
  · rw [ho] at h; cases h
def eachC (p : Nat ⊕ List api_Change) (z : Option (Int × List api_Change)) : Prop := match p with
  | .inl j => ∃ q, z = some ((j : Int), q)
  | .inr o => z = some (-1, o)
theorem eachLineC_eq (text : Str) (ht : text.length ≤ 17179869184) : eachC (procC 0 [] (splitAt 10 text)) (disk_eachLine_i2 text []) := by
  unfold disk_eachLine_i2
  obtain ⟨N, hN⟩ : ∃ N, Fuel = N := ⟨_, rfl⟩
  have hN2 : 1099511627776 ≤ N := hN ▸ fuel_ge
  rw [hN]
  clear hN
  simp only [jp_eq]
  have key : ∀ (k : Nat) (N : Nat) (t : Str) (n : Nat) (o : List api_Change), t.length < N → t.length ≤ k → n + t.length ≤ text.length → o.length ≤ n →
      eachC (procC n o (splitAt 10 t)) (loopN N (fun s nx_67 k_66 =>
    match s with
    | (text_60, n_61, o1_62) =>
      bif !decide (text_60 = []) then
        call (strings_Cut text_60 ([10] : Str)) fun r_68 =>
        call (disk_readLine r_68.1) fun r_69 =>
        callG (!((!r_68.2.2) || (!r_69.2))) (disk_ParseChanges_1_i1 r_69.1 o1_62) (false, o1_62) fun r_70 =>
        bif (((!r_68.2.2) || (!r_69.2)) || (!r_70.1)) then
          some (n_61, r_70.2)
        else
        nx_67 (r_68.2.1, IntKind.i64.wrap (n_61 + 1), r_70.2)
      else
      k_66 (text_60, n_61, o1_62)) (t, (n : Int), o) (fun s => match s with
    | (text_60, n_61, o1_62) => some (-1, o1_62))) := by
    intro k
    induction k with
    | zero =>
      intro N t n o hN hk hn ho
      obtain rfl : t = [] := List.length_eq_zero_iff.1 (by omega)
      cases N with
      | zero => simp at hN
      | succ N =>
        unfold loopN
        exact rfl
    | succ k ih =>
      intro N t n o hN hk hn ho
      cases N with
      | zero => simp at hN
      | succ N =>
        unfold loopN
        cases t with
        | nil => exact rfl
        | cons c t =>
          generalize ht' : c :: t = t0 at *
          have hne : t0 ≠ [] := by rw [← ht']; simp
          dsimp +instances only
          rw [decide_eq_false hne]
          simp only [Bool.not_false, cond_true]
          have h1 := cutAt_len 10 t0
          rw [cut_eq t0 10 (by omega), call_some, readLine_eq _ (by omega), call_some, splitAt_cut, parseC1_eq _ _ (by omega), callG_some]
          cases hc : (cutAt 10 t0).2.2
          · simp only [Bool.not_false, Bool.true_or, Bool.not_true, cond_true, Bool.false_eq_true, if_false]
            rw [show procC n o [t0] = .inl n by simp only [procC, decide_eq_false hne, cond_false]]
            exact ⟨_, rfl⟩
          · have h3 := h1.2.2 hc
            simp only [Bool.not_true, Bool.false_or, if_true]
            rw [procC_cons _ _ _ _ (splitAt_ne 10 _)]
            generalize hl0 : (cutAt 10 t0).1 = l at *
            cases hs : stepC l with
            | none =>
              have hok := stepC_none hs
              unfold okD at hok
              cases hr : (readS l).2
              · exact ⟨_, rfl⟩
              · rw [hr, Bool.true_and] at hok
                simp only [Bool.not_true, Bool.not_false, cond_true, hok, Bool.or_true]
                exact ⟨_, rfl⟩
            | some p =>
              obtain ⟨hok, rfl⟩ := stepC_some hs
              have hok' := hok
              unfold okD at hok'
              simp only [Bool.and_eq_true] at hok'
              simp only [hok'.1, Bool.not_true, Bool.not_false, cond_true, hok'.2, Bool.or_self, cond_false]
              rw [wrap1 n (by omega)]
              exact ih N _ (n + 1) _ (by omega) (by omega) (by omega) (by simp; omega)
  exact key text.length N text 0 [] (by omega) (Nat.le_refl _) (by omega) (Nat.le_refl _)
theorem svc3_path {k : Str} {p : List Str} {s : api_Service} (h : svc3 k p = some s) : ∃ x ∈ p, s.Path = x := svc3_len h
theorem chD_sm (l : Str) (hl : l.length ≤ 17179869184) : SmC (chD l) := by
  have hk := keyOf_len l
  have hv : ∀ x ∈ splitAt 32 (valOf l), x.length ≤ 17179869184 := fun x hx => by
    have := splitAt_mem_len hx
    omega
  have key : (readS l).1.file.Path.length ≤ 17179869184 ∧ (readS l).1.setting.Key.length ≤ 17179869184 ∧ (readS l).1.service.Path.length ≤ 17179869184 := by
    unfold readS
    dsimp only
    generalize hs3 : svc3 (keyOf l) (splitAt 32 (valOf l)) = s3
    have hsp : ∀ s, s3 = some s → s.Path.length ≤ 17179869184 := fun s e => by
      rw [e] at hs3
      obtain ⟨x, hx, e⟩ := svc3_path hs3
      rw [e]; exact hv x hx
    generalize wordOf l = w
    have hkk : (keyOf l).length ≤ 17179869184 := by omega
    generalize keyOf l = k at *
    generalize twoOf l = two
    generalize unqS (valOf l) = u
    have h0 : ([] : Str).length ≤ 17179869184 := by simp
    clear hs3
    cases (!(cutAt 32 l).2.2 || decide (k = []))
    rotate_left
    · exact ⟨h0, h0, h0⟩
    simp only [cond_false]
    cases decide (w = wFact) || decide (w = wSet)
    rotate_left
    · exact ⟨h0, hkk, h0⟩
    simp only [cond_false]
    cases ((decide (w = wFile) || decide (w = wRun)) || decide (w = wPut)) || decide (w = wPutrun)
    rotate_left
    · exact ⟨hkk, h0, h0⟩
    simp only [cond_false]
    cases decide (w = wService)
    rotate_left
    · simp only [cond_true]
      cases two
      · exact ⟨h0, h0, h0⟩
      · cases s3 with
        | none => exact ⟨h0, h0, h0⟩
        | some s => exact ⟨h0, h0, hsp s rfl⟩
    simp only [cond_false]
    cases decide (w = wRemove)
    rotate_left
    · exact ⟨hkk, h0, h0⟩
    simp only [cond_false]
    cases decide (w = wUnset)
    rotate_left
    · exact ⟨h0, hkk, h0⟩
    simp only [cond_false]
    cases decide (w = wDrop)
    rotate_left
    · exact ⟨h0, h0, h0⟩
    exact ⟨h0, h0, h0⟩
  exact ⟨key.1, key.2.1, key.2.2⟩
theorem procC_sm : ∀ (L : List Str) (n : Nat) (o o' : List api_Change), (∀ x ∈ L, x.length ≤ 17179869184) → (∀ c ∈ o, SmC c) → procC n o L = .inr o' → ∀ c ∈ o', SmC c
  | [], n, o, o', hL, ho, h => by
    simp only [procC] at h
    cases h
    exact ho
  | [x], n, o, o', hL, ho, h => by
    simp only [procC] at h
    cases hx : decide (x = [])
    · rw [hx] at h; cases h
    · rw [hx] at h
      cases h
      exact ho
  | x :: y :: r, n, o, o', hL, ho, h => by
    rw [procC_cons _ _ _ _ (by simp)] at h
    cases hs : stepC x with
    | none => rw [hs] at h; cases h
    | some c =>
      rw [hs] at h
      obtain ⟨hok, rfl⟩ := stepC_some hs
      refine procC_sm (y :: r) (n + 1) _ o' (fun z hz => hL z (List.mem_cons_of_mem _ hz)) (fun d hd => ?_) h
      rcases List.mem_append.1 hd with hd | hd
      · exact ho d hd
      · rw [List.mem_singleton.1 hd]
        exact chD_sm x (hL x (List.mem_cons_self ..))
def parseC (text : Str) : List api_Change × Int × Int := match procC 0 [] (splitAt 10 text) with
  | .inl j => ([], (j : Int), 8)
  | .inr o => bif !decide (eChs o = 0) then ([], 0, eChs o) else (o, 0, 0)
theorem proc_smC (text : Str) (ht : text.length ≤ 4194304) {o : List api_Change} (h : procC 0 [] (splitAt 10 text) = .inr o) : ∀ c ∈ o, SmC c :=
  procC_sm _ 0 [] o (fun x hx => by have := splitAt_mem_len hx; omega) (fun c hc => by cases hc) h
theorem D_ParseChanges_eq (text : Str) (ht : text.length ≤ 4194304) : disk_ParseChanges text = some (parseC text) := by
  unfold disk_ParseChanges parseC
  rw [decide_eq_false (by omega), cond_false]
  have h := eachLineC_eq text (by omega)
  cases hp : procC 0 [] (splitAt 10 text) with
  | inl j =>
    rw [hp] at h
    obtain ⟨q, h⟩ := h
    rw [h, call_some]
    simp only
    rw [decide_eq_true (by omega)]
    rfl
  | inr o =>
    rw [hp] at h
    rw [show disk_eachLine_i2 text [] = some (-1, o) from h, call_some]
    simp only
    rw [show decide ((0 : Int) ≤ -1) = false from rfl, cond_false, D_changes_eq o (proc_smC text ht hp), call_some]
    cases decide (eChs o = 0) <;> rfl
theorem loopC {Z : Type} {f : Nat → Str → List api_Change → (List api_Change → Option Z) → (List api_Change → Option Z) → Option Z} {K : List api_Change → Option Z} (T B : Nat) (hT : T ≤ 17179869184) (hB : B < 274877906944) (torn : Int) (zE : Nat → Z)
    (hf : ∀ i l o nx, l.length ≤ T → o.length < 274877906944 → f i l o nx K = bif !okD l || decide ((i : Int) = torn) then some (zE i) else nx (o ++ [chD l])) :
    ∀ (L tail : List Str) (i : Nat) (o : List api_Change), (∀ x ∈ L, x.length ≤ T) → o.length ≤ i → i + L.length ≤ B →
      ((torn = -1 ∧ tail = [[]]) ∨ (tail = [] ∧ torn = ((i + L.length - 1 : Nat) : Int) ∧ L ≠ [] ∧ (∀ h : L ≠ [], L.getLast h ≠ []))) →
      forL L i f o K = match procC i o (L ++ tail) with
        | .inl j => some (zE j)
        | .inr o' => K o'
  | [], tail, i, o, hL, ho, hB', hc => by
    rcases hc with ⟨_, rfl⟩ | ⟨_, _, h, _⟩
    · rfl
    · exact absurd rfl h
  | x :: L, tail, i, o, hL, ho, hB', hc => by
    simp only [List.length_cons] at hB'
    unfold forL
    rw [hf i x o _ (hL x (List.mem_cons_self ..)) (by omega)]
    by_cases hlast : tail = [] ∧ L = []
    · obtain ⟨rfl, rfl⟩ := hlast
      rcases hc with ⟨_, h⟩ | ⟨_, h, _, hne⟩
      · cases h
      · have hx := hne (by simp)
        simp only [List.getLast_singleton] at hx
        have ht : torn = (i : Int) := by simpa using h
        rw [decide_eq_true ht.symm, Bool.or_true, cond_true]
        simp only [List.append_nil, procC, decide_eq_false hx, cond_false]
    · have hne : L ++ tail ≠ [] := by
        intro h
        obtain ⟨rfl, rfl⟩ := List.append_eq_nil_iff.1 h
        exact hlast ⟨rfl, rfl⟩
      have ht : (i : Int) ≠ torn := by
        rcases hc with ⟨h, _⟩ | ⟨rfl, h, _, _⟩
        · omega
        · have hL0 : L ≠ [] := fun h => hlast ⟨rfl, h⟩
          have := List.length_pos_iff.2 hL0
          simp only [List.length_cons] at h; omega
      rw [decide_eq_false ht, Bool.or_false, List.cons_append, procC_cons _ _ _ _ hne]
      unfold stepC
      cases hok : okD x
      · rfl
      · simp only [Bool.not_true, cond_false, cond_true]
        refine loopC T B hT hB torn zE hf L tail (i + 1) _ (fun y hy => hL y (List.mem_cons_of_mem _ hy)) (by simp; omega) (by omega) ?_
        rcases hc with h | ⟨rfl, h, _, hl⟩
        · exact .inl h
        · have hL0 : L ≠ [] := fun h => hlast ⟨rfl, h⟩
          refine .inr ⟨rfl, ?_, hL0, fun _ => ?_⟩
          · simp only [List.length_cons] at h; rw [h]; congr 1
            have := List.length_pos_iff.2 hL0
            omega
          · have := hl (by simp)
            rwa [List.getLast_cons hL0] at this
theorem R_ParseChanges_eq (text : Str) (ht : text.length ≤ 4194304) : R_ParseChanges text = some (parseC text) := by
  unfold R_ParseChanges parseC
  rw [decide_eq_false (by omega), cond_false]
  obtain ⟨L, torn, tail, h1, h2, h3⟩ := cutLines_eq text (by omega)
  have hlen := splitAt_length 10 text
  have hc := List.count_le_length (a := (10 : UInt8)) (l := text)
  rw [h1, call_some]
  have hLl : L.length ≤ text.length + 1 := by
    have := congrArg List.length h2
    rw [List.length_append] at this
    omega
  rw [jp_eq]
  refine (loopC text.length (text.length + 1) (by omega) (by omega) torn (fun i => (([] : List api_Change), (i : Int), (8 : Int))) (fun i l o nx hl ho => ?_) L tail 0 [] (fun x hx => by
      have : x ∈ splitAt 10 text := by rw [h2]; exact List.mem_append_left _ hx
      exact splitAt_mem_len this) (Nat.le_refl _) (by omega) ?_).trans ?_
  · obtain ⟨c, e1, e2⟩ := changeOf_eq l (by omega)
    rw [e1, call_some, chk_true (by simp; omega)]
    simp only
    cases hok : okD l
    · rfl
    · rw [e2 hok]
  · rcases h3 with h | ⟨a, b, c, d⟩
    · exact .inl h
    · rcases b with ⟨_, h⟩ | b
      · exact h.elim
      · exact .inr ⟨a, b, c, d⟩
  · rw [← h2]
    cases hp : procC 0 [] (splitAt 10 text) with
    | inl j => rfl
    | inr o =>
      simp only
      rw [R_changes_eq o (proc_smC text ht hp), call_some]
      cases decide (eChs o = 0) <;> rfl
/-! ### what is written is read -/
theorem mem_split {c b : UInt8} : ∀ {s : Str}, b ∈ s → b = c ∨ ∃ q ∈ splitAt c s, b ∈ q
  | [], h => by cases h
  | x :: s, h => by
    simp only [splitAt]
    rcases List.mem_cons.1 h with rfl | h
    · by_cases hb : b = c
      · exact .inl hb
      · right
        rw [if_neg hb]
        split
        · exact ⟨[b], by simp, by simp⟩
        · exact ⟨_, List.mem_cons_self .., by simp⟩
    · rcases mem_split (c := c) h with h | ⟨q, hq, hbq⟩
      · exact .inl h
      · right
        split
        · exact ⟨q, List.mem_cons_of_mem _ hq, hbq⟩
        · split
          · rename_i e; rw [e] at hq; cases hq
          · rename_i a t e
            rw [e] at hq
            rcases List.mem_cons.1 hq with rfl | hq
            · exact ⟨_, List.mem_cons_self .., List.mem_cons_of_mem _ hbq⟩
            · exact ⟨q, List.mem_cons_of_mem _ hq, hbq⟩
theorem path_no {p : Str} (h : pathOk p = true) {b : UInt8} (hb : partB b = false) (h47 : b ≠ 47) : b ∉ p := by
  intro hm
  unfold pathOk at h
  simp only [Bool.and_eq_true, List.all_eq_true] at h
  rcases mem_split (c := 47) hm with h' | ⟨q, hq, hbq⟩
  · exact h47 h'
  · have := h.1 q hq
    unfold partOk at this
    simp only [Bool.and_eq_true, List.all_eq_true] at this
    have := this.1.1.1 b hbq
    rw [hb] at this; cases this
theorem path_ne {p : Str} (h : pathOk p = true) : p ≠ [] := by
  rintro rfl
  simp [pathOk, splitAt, partOk] at h
theorem name_no {p : Str} (h : nameOk p = true) {b : UInt8} (hb : nameB b = false) : b ∉ p := by
  intro hm
  unfold nameOk at h
  simp only [Bool.and_eq_true, List.all_eq_true] at h
  have := h.1.1 b hm
  rw [hb] at this; cases this
theorem name_ne {p : Str} (h : nameOk p = true) : p ≠ [] := by
  rintro rfl
  simp [nameOk] at h
theorem esc_no10 (x : UInt8) : (10 : UInt8) ∉ esc x := by
  have : ∀ x : UInt8, (esc x).contains 10 = false := u8all (by decide +kernel)
  have := this x
  simpa using this
theorem quote_no10 (t : Str) : (10 : UInt8) ∉ quoteS t := by
  unfold quoteS body
  simp only [List.mem_cons, List.mem_append, List.mem_flatMap, List.not_mem_nil, or_false, not_or, not_exists, not_and]
  exact ⟨by decide, fun x _ => esc_no10 x, by decide⟩
theorem unq_quote (t : Str) : unqS (quoteS t) = (t, 0) := by
  have hq : quoted (quoteS t) = true := by
    unfold quoted quoteS
    have h2 : (34 :: (body t ++ [34])).length = (body t).length + 2 := by simp
    rw [h2]
    simp only [List.getD_cons_zero]
    rw [show (body t).length + 2 - 1 = (body t).length + 1 by omega, List.getD_cons_succ, List.getD_eq_getElem?_getD, List.getElem?_append_right (Nat.le_refl _)]
    rw [show decide ((((body t).length + 2 : Nat) : Int) < 2) = false by simp only [decide_eq_false_iff_not]; omega]
    simp
  have hm : mid (quoteS t) = body t := by
    unfold mid quoteS
    rw [show (34 :: (body t ++ [34])).length - 2 = (body t).length by simp]
    simp
  unfold unqS
  rw [hq, hm, undoF_body]; rfl
theorem parts2 (w P Q : Str) (h1 : (32 : UInt8) ∉ w) (h2 : (32 : UInt8) ∉ P) : wordOf (w ++ 32 :: (P ++ 32 :: Q)) = w ∧ keyOf (w ++ 32 :: (P ++ 32 :: Q)) = P ∧ valOf (w ++ 32 :: (P ++ 32 :: Q)) = Q ∧ twoOf (w ++ 32 :: (P ++ 32 :: Q)) = true ∧ (cutAt 32 (w ++ 32 :: (P ++ 32 :: Q))).2.2 = true := by
  have a := cutAt_app (b := P ++ 32 :: Q) h1
  have b := cutAt_app (b := Q) h2
  unfold wordOf keyOf valOf twoOf restOf
  rw [a]
  simp only [b]
  exact ⟨trivial, trivial, trivial, trivial, trivial⟩
theorem parts1 (w P : Str) (h1 : (32 : UInt8) ∉ w) (h2 : (32 : UInt8) ∉ P) : wordOf (w ++ 32 :: P) = w ∧ keyOf (w ++ 32 :: P) = P ∧ valOf (w ++ 32 :: P) = [] ∧ twoOf (w ++ 32 :: P) = false ∧ (cutAt 32 (w ++ 32 :: P)).2.2 = true := by
  have a := cutAt_app (b := P) h1
  have b := cutAt_none h2
  unfold wordOf keyOf valOf twoOf restOf
  rw [a]
  simp only [b]
  exact ⟨trivial, trivial, trivial, trivial, trivial⟩
theorem need_path {p : Str} (h : (bif !pathOk p then (5 : Int) else 0) = 0) : pathOk p = true := by
  cases hp : pathOk p
  · rw [hp] at h; simp at h
  · rfl
theorem bit_no (b : Bool) (x : UInt8) (h : x ≠ 48) (h' : x ≠ 49) : x ∉ bitW b := by
  cases b <;> simp [bitW, h, h']
theorem split_svc (P : Str) (a b : Bool) (h : (32 : UInt8) ∉ P) : splitAt 32 (P ++ 32 :: (bitW a ++ 32 :: bitW b)) = [P, bitW a, bitW b] := by
  rw [splitAt_app h, splitAt_app (bit_no a 32 (by decide) (by decide)), splitAt_none (bit_no b 32 (by decide) (by decide))]
theorem bitS_W (b : Bool) : bitS (bitW b) = true := by cases b <;> rfl
theorem bitW_one (b : Bool) : decide (bitW b = ([49] : Str)) = b := by cases b <;> rfl
/-- The line of a right change is read as that change, and has no line feed. -/
theorem step_line (c : api_Change) (h : eCh c = 0) : stepC (lineC c) = some c ∧ (10 : UInt8) ∉ lineC c := by
  obtain ⟨hk, hn, hc⟩ := eCh_zero h
  unfold isKind at hk
  have p10 : partB 10 = false := rfl
  have p32 : partB 32 = false := rfl
  have n10 : nameB 10 = false := rfl
  have n32 : nameB 32 = false := rfl
  have fin : ∀ l, okD l = true → chD l = c → stepC l = some c := fun l h1 h2 => by unfold stepC; rw [h1, h2]; rfl
  obtain ⟨K, F, S, V⟩ := c
  simp only at hk
  rcases kinds6 hk with e | e | e | e | e | e
  all_goals subst e
  · -- put
    unfold eNeed at hn
    simp only [decide_true, cond_true] at hn
    unfold eFile at hn
    cases hp : pathOk F.Path
    · rw [hp] at hn; simp at hn
    have hP := path_no hp p32 (by decide)
    have h10 := path_no hp p10 (by decide)
    have hne := path_ne hp
    have hc' : S = noSet ∧ V = noSvc := by
      unfold keptC at hc
      simp only [decide_true, cond_true] at hc
      injection hc with _ _ h3 h4
      exact ⟨h3, h4⟩
    obtain ⟨rfl, rfl⟩ := hc'
    obtain ⟨P, D, R⟩ := F
    simp only at hP h10 hne
    have key : ∀ w, (w = wPut ∨ w = wPutrun) → okD (w ++ 32 :: (P ++ 32 :: quoteS D)) = true ∧ chD (w ++ 32 :: (P ++ 32 :: quoteS D)) = ⟨1, ⟨P, D, decide (w = wPutrun)⟩, noSet, noSvc⟩ := by
      rintro w hw
      have h32 : (32 : UInt8) ∉ w := by rcases hw with rfl | rfl <;> decide
      obtain ⟨a1, a2, a3, a4, a5⟩ := parts2 w P (quoteS D) h32 hP
      unfold okD chD readS
      simp only [a1, a2, a3, a4, a5, unq_quote, decide_eq_false hne]
      rcases hw with rfl | rfl <;> exact ⟨rfl, rfl⟩
    have hl : lineC ⟨1, ⟨P, D, R⟩, noSet, noSvc⟩ = (bif R then wPutrun else wPut) ++ 32 :: (P ++ 32 :: quoteS D) := rfl
    rw [hl]
    cases R
    · refine ⟨fin _ (key wPut (.inl rfl)).1 (key wPut (.inl rfl)).2, ?_⟩
      simp only [cond_false, List.mem_append, List.mem_cons, not_or]
      exact ⟨by decide, by decide, h10, by decide, quote_no10 D⟩
    · refine ⟨fin _ (key wPutrun (.inr rfl)).1 (key wPutrun (.inr rfl)).2, ?_⟩
      simp only [cond_true, List.mem_append, List.mem_cons, not_or]
      exact ⟨by decide, by decide, h10, by decide, quote_no10 D⟩
  · -- remove
    have hp := need_path (p := F.Path) hn
    have hP := path_no hp p32 (by decide)
    have h10 := path_no hp p10 (by decide)
    have hne := path_ne hp
    have hc' : F = ⟨F.Path, [], false⟩ ∧ S = noSet ∧ V = noSvc := by
      unfold keptC at hc
      simp only [show decide ((2 : Int) = 1) = false from rfl, decide_true, cond_true, cond_false] at hc
      injection hc with _ h2 h3 h4
      exact ⟨h2, h3, h4⟩
    obtain ⟨hF, rfl, rfl⟩ := hc'
    obtain ⟨P, D, R⟩ := F
    simp only at hP h10 hne hF
    injection hF with _ h2 h3
    subst h2; subst h3
    have hl : lineC ⟨2, ⟨P, [], false⟩, noSet, noSvc⟩ = wRemove ++ 32 :: P := rfl
    rw [hl]
    obtain ⟨a1, a2, a3, a4, a5⟩ := parts1 wRemove P (by decide) hP
    refine ⟨fin _ ?_ ?_, ?_⟩
    · unfold okD readS
      simp only [a1, a2, a3, a4, a5, decide_eq_false hne]
      rfl
    · unfold chD readS
      simp only [a1, a2, a3, a4, a5, decide_eq_false hne]
      rfl
    · simp only [List.mem_append, List.mem_cons, not_or]
      exact ⟨by decide, by decide, h10⟩
  · -- set
    unfold eNeed at hn
    simp only [show decide ((3 : Int) = 1) = false from rfl, show decide ((3 : Int) = 2) = false from rfl, decide_true, cond_true, cond_false] at hn
    unfold eSet at hn
    cases hp : pathOk S.Key
    · rw [hp] at hn; simp at hn
    have hP := path_no hp p32 (by decide)
    have h10 := path_no hp p10 (by decide)
    have hne := path_ne hp
    have hc' : F = noFile ∧ V = noSvc := by
      unfold keptC at hc
      simp only [show decide ((3 : Int) = 1) = false from rfl, show decide ((3 : Int) = 2) = false from rfl, decide_true, cond_true, cond_false] at hc
      injection hc with _ h2 h3 h4
      exact ⟨h2, h4⟩
    obtain ⟨rfl, rfl⟩ := hc'
    obtain ⟨P, D⟩ := S
    simp only at hP h10 hne
    have hl : lineC ⟨3, noFile, ⟨P, D⟩, noSvc⟩ = wSet ++ 32 :: (P ++ 32 :: quoteS D) := rfl
    rw [hl]
    obtain ⟨a1, a2, a3, a4, a5⟩ := parts2 wSet P (quoteS D) (by decide) hP
    refine ⟨fin _ ?_ ?_, ?_⟩
    · unfold okD readS
      simp only [a1, a2, a3, a4, a5, unq_quote, decide_eq_false hne]
      rfl
    · unfold chD readS
      simp only [a1, a2, a3, a4, a5, unq_quote, decide_eq_false hne]
      rfl
    · simp only [List.mem_append, List.mem_cons, not_or]
      exact ⟨by decide, by decide, h10, by decide, quote_no10 D⟩
  · -- unset
    have hp := need_path (p := S.Key) hn
    have hP := path_no hp p32 (by decide)
    have h10 := path_no hp p10 (by decide)
    have hne := path_ne hp
    have hc' : F = noFile ∧ S = ⟨S.Key, []⟩ ∧ V = noSvc := by
      unfold keptC at hc
      simp only [show decide ((4 : Int) = 1) = false from rfl, show decide ((4 : Int) = 2) = false from rfl, show decide ((4 : Int) = 3) = false from rfl, decide_true, cond_true, cond_false] at hc
      injection hc with _ h2 h3 h4
      exact ⟨h2, h3, h4⟩
    obtain ⟨rfl, hS, rfl⟩ := hc'
    obtain ⟨P, D⟩ := S
    simp only at hP h10 hne hS
    injection hS with _ h2
    subst h2
    have hl : lineC ⟨4, noFile, ⟨P, []⟩, noSvc⟩ = wUnset ++ 32 :: P := rfl
    rw [hl]
    obtain ⟨a1, a2, a3, a4, a5⟩ := parts1 wUnset P (by decide) hP
    refine ⟨fin _ ?_ ?_, ?_⟩
    · unfold okD readS
      simp only [a1, a2, a3, a4, a5, decide_eq_false hne]
      rfl
    · unfold chD readS
      simp only [a1, a2, a3, a4, a5, decide_eq_false hne]
      rfl
    · simp only [List.mem_append, List.mem_cons, not_or]
      exact ⟨by decide, by decide, h10⟩
  · -- service
    unfold eNeed at hn
    simp only [show decide ((5 : Int) = 1) = false from rfl, show decide ((5 : Int) = 2) = false from rfl, show decide ((5 : Int) = 3) = false from rfl, show decide ((5 : Int) = 4) = false from rfl, decide_true, cond_true, cond_false] at hn
    unfold eSvc at hn
    have hnp : nameOk V.Name = true ∧ pathOk V.Path = true := by
      cases h1 : nameOk V.Name <;> cases h2 : pathOk V.Path <;> simp [h1, h2] at hn ⊢
    have hP := path_no hnp.2 p32 (by decide)
    have h10 := path_no hnp.2 p10 (by decide)
    have hne := path_ne hnp.2
    have hN := name_no hnp.1 n32
    have hN10 := name_no hnp.1 n10
    have hNne := name_ne hnp.1
    have hc' : F = noFile ∧ S = noSet := by
      unfold keptC at hc
      simp only [show decide ((5 : Int) = 1) = false from rfl, show decide ((5 : Int) = 2) = false from rfl, show decide ((5 : Int) = 3) = false from rfl, show decide ((5 : Int) = 4) = false from rfl, decide_true, cond_true, cond_false] at hc
      injection hc with _ h2 h3 h4
      exact ⟨h2, h3⟩
    obtain ⟨rfl, rfl⟩ := hc'
    obtain ⟨Nm, P, A, O⟩ := V
    simp only at hP h10 hne hN hN10 hNne
    have hl : lineC ⟨5, noFile, noSet, ⟨Nm, P, A, O⟩⟩ = wService ++ 32 :: (Nm ++ 32 :: (P ++ 32 :: (bitW A ++ 32 :: bitW O))) := rfl
    rw [hl]
    obtain ⟨a1, a2, a3, a4, a5⟩ := parts2 wService Nm (P ++ 32 :: (bitW A ++ 32 :: bitW O)) (by decide) hN
    have hs : svc3 Nm [P, bitW A, bitW O] = some ⟨Nm, P, A, O⟩ := by
      simp only [svc3, decide_eq_false hne, bitS_W, bitW_one]
      rfl
    refine ⟨fin _ ?_ ?_, ?_⟩
    · unfold okD readS
      simp only [a1, a2, a3, a4, a5, split_svc P A O hP, hs, decide_eq_false hNne]
      rfl
    · unfold chD readS
      simp only [a1, a2, a3, a4, a5, split_svc P A O hP, hs, decide_eq_false hNne]
      rfl
    · simp only [List.mem_append, List.mem_cons, not_or]
      exact ⟨by decide, by decide, hN10, by decide, h10, by decide, bit_no A 10 (by decide) (by decide), by decide, bit_no O 10 (by decide) (by decide)⟩
  · -- drop
    unfold eNeed at hn
    simp only [show decide ((6 : Int) = 1) = false from rfl, show decide ((6 : Int) = 2) = false from rfl, show decide ((6 : Int) = 3) = false from rfl, show decide ((6 : Int) = 4) = false from rfl, show decide ((6 : Int) = 5) = false from rfl, cond_false] at hn
    have hp : nameOk V.Name = true := by
      cases h1 : nameOk V.Name
      · rw [h1] at hn; simp at hn
      · rfl
    have hP := name_no hp n32
    have h10 := name_no hp n10
    have hne := name_ne hp
    have hc' : F = noFile ∧ S = noSet ∧ V = ⟨V.Name, [], false, false⟩ := by
      unfold keptC at hc
      simp only [show decide ((6 : Int) = 1) = false from rfl, show decide ((6 : Int) = 2) = false from rfl, show decide ((6 : Int) = 3) = false from rfl, show decide ((6 : Int) = 4) = false from rfl, show decide ((6 : Int) = 5) = false from rfl, cond_false] at hc
      injection hc with _ h2 h3 h4
      exact ⟨h2, h3, h4⟩
    obtain ⟨rfl, rfl, hV⟩ := hc'
    obtain ⟨Nm, P, A, O⟩ := V
    simp only at hP h10 hne hV
    injection hV with _ h2 h3 h4
    subst h2; subst h3; subst h4
    have hl : lineC ⟨6, noFile, noSet, ⟨Nm, [], false, false⟩⟩ = wDrop ++ 32 :: Nm := rfl
    rw [hl]
    obtain ⟨a1, a2, a3, a4, a5⟩ := parts1 wDrop Nm (by decide) hP
    refine ⟨fin _ ?_ ?_, ?_⟩
    · unfold okD readS
      simp only [a1, a2, a3, a4, a5, decide_eq_false hne]
      rfl
    · unfold chD readS
      simp only [a1, a2, a3, a4, a5, decide_eq_false hne]
      rfl
    · simp only [List.mem_append, List.mem_cons, not_or]
      exact ⟨by decide, by decide, h10⟩
theorem proc_print : ∀ (l : List api_Change) (n : Nat) (o : List api_Change), (∀ c ∈ l, eCh c = 0) → procC n o (splitAt 10 (printC l)) = .inr (o ++ l)
  | [], n, o, _ => by simp [printC, splitAt, procC]
  | c :: l, n, o, h => by
    obtain ⟨h1, h2⟩ := step_line c (h c (List.mem_cons_self ..))
    rw [printC_cons, List.append_assoc, List.cons_append, List.nil_append, splitAt_app h2, procC_cons _ _ _ _ (splitAt_ne 10 _), h1]
    simp only
    rw [proc_print l (n + 1) (o ++ [c]) (fun d hd => h d (List.mem_cons_of_mem _ hd))]
    simp
theorem parse_print (l : List api_Change) (h : eChs l = 0) : parseC (printC l) = (l, 0, 0) := by
  unfold parseC
  rw [proc_print l 0 [] (eChs_zero h), List.nil_append]
  simp only
  rw [h]; rfl
theorem same_ch (l : List api_Change) : slices_Equal_api_Change_api_Change l l = some true := by
  unfold slices_Equal_api_Change_api_Change
  rw [decide_eq_true rfl]
  exact same_loop l (fun c_20 c_21 => (decide (c_20.Kind = c_21.Kind)) && ((decide (c_20.File.Path = c_21.File.Path)) && ((decide (c_20.File.Data = c_21.File.Data)) && ((decide (c_20.File.Runs = c_21.File.Runs)) && ((decide (c_20.Setting.Key = c_21.Setting.Key)) && ((decide (c_20.Setting.Value = c_21.Setting.Value)) && ((decide (c_20.Service.Name = c_21.Service.Name)) && ((decide (c_20.Service.Path = c_21.Service.Path)) && ((decide (c_20.Service.Auto = c_21.Service.Auto)) && (decide (c_20.Service.On = c_21.Service.On))))))))))) (fun x => by simp) l 0 rfl
theorem law_cp (l : List api_Change) (text : Str) (ht : text.length ≤ 4194304) (hC : ∀ c ∈ l, SmC c) (hD : ∀ c ∈ l, SmD c) (hp : (printC l).length ≤ 137438953472) : Law_ChangesPrint l text = some true := by
  unfold Law_ChangesPrint
  rw [show Law_landed = some true from rfl, call_some, D_print_loop l hD hp, D_changes_eq l hC, R_changes_eq l hC, D_ParseChanges_eq text ht, R_ParseChanges_eq text ht]
  simp only [call_some, jp_eq, Bool.not_true, cond_false]
  simp only [decide_true, Bool.and_self, callG_true, same_ch, call_some, Bool.true_and]
  by_cases he : eChs l = 0
  · have hk : ∀ c ∈ l, isKind c = true := fun c hc => (eCh_zero (eChs_zero he c hc)).1
    rw [R_print_eq l hD hk hp]
    simp only [he, decide_true, Bool.not_true, cond_false, call_some, callG_true, Bool.true_and]
    unfold szd
    by_cases hL : 4194304 < (printC l).length
    · rw [decide_eq_true (by omega)]
      simp only [cond_true, call_some]
      rfl
    · rw [decide_eq_false (by omega)]
      simp only [cond_false, call_some, decide_true, Bool.not_true, cond_true]
      rw [D_ParseChanges_eq _ (by omega), call_some, parse_print l he]
      simp only [decide_true, Bool.not_true, Bool.or_self, Bool.not_false, callG_true, same_ch, call_some, cond_false]
  · simp only [decide_eq_false he, Bool.not_false, cond_true, call_some, callG_false, Bool.false_and, cond_false, decide_true, Bool.not_true]
end Go.Md
