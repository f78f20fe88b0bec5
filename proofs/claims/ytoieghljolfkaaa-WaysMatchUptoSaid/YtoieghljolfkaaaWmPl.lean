/- Plain lemmas on the models: the law's model answers true. -/
import Derived.Test.YtoieghljolfkaaaWmMd
set_option linter.unusedSimpArgs false
set_option linter.unusedVariables false
namespace Go.Md
open Go.Vc
section
variable {Z A S α : Type} {P : Z → Prop}
theorem call_some (x : A) (k : A → Option Z) : call (some x) k = k x := rfl
theorem callG_true (a : Option A) (d : A) (k : A → Option Z) : callG true a d k = call a k := rfl
theorem callG_false (a : Option A) (d : A) (k : A → Option Z) : callG false a d k = k d := rfl
theorem chk_true {p : Prop} [Decidable p] (h : p) (m : Option Z) : chk p m = m := if_pos h
theorem jp_eq (F : S → Option Z) (m : (S → Option Z) → Option Z) : jp F m = m F := rfl
theorem letv_eq (a : A) (k : A → Option Z) : letv a k = k a := rfl
theorem idx_eq {l : List α} {i : Nat} (h : i < l.length) (k : α → Option Z) : idx l i k = k l[i] := by
 unfold idx
 simp [h]
theorem fuel_ge : 1099511627776 ≤ Fuel := Nat.le_refl _
theorem wrapS {n : Int} (h1 : -9223372036854775808 ≤ n) (h2 : n ≤ 9223372036854775807) : IntKind.i64.wrap n = n := wrap64 h1 h2
def Ends {Z : Type} (m : Option Z) (P : Z → Prop) : Prop := ∃ z, m = some z ∧ P z
theorem Ends.call {a : Option A} {k : A → Option Z} {Q : A → Prop} (h : Ends a Q) (hk : ∀ x, Q x → Ends (k x) P) : Ends (Vc.call a k) P := by
 obtain ⟨x, rfl, hx⟩ := h
 exact hk x hx
theorem Ends.mono {a : Option Z} {Q : Z → Prop} (h : Ends a Q) (hk : ∀ x, Q x → P x) : Ends a P := by
 obtain ⟨x, e, hx⟩ := h
 exact ⟨x, e, hk x hx⟩
theorem forL_ex {f : Nat → α → S → (S → Option Z) → (S → Option Z) → Option Z} {k : S → Option Z} (inv : Nat → List α → S → Prop)
  (h0 : ∀ i s, inv i [] s → Ends (k s) P) (h1 : ∀ i x l s nx, inv i (x :: l) s → (∀ s', inv (i + 1) l s' → Ends (nx s') P) → Ends (f i x s nx k) P) :
  ∀ (l : List α) (i : Nat) (s : S), inv i l s → Ends (forL l i f s k) P
 | [], i, s, h => h0 i s h
 | x :: l, i, s, h => h1 i x l s _ h fun s' hs => forL_ex inv h0 h1 l (i + 1) s' hs
theorem forC_ex {f : Nat → S → (S → Option Z) → (S → Option Z) → Option Z} {k : S → Option Z} (n : Nat) (inv : Nat → S → Prop)
  (h0 : ∀ s, inv n s → Ends (k s) P) (h1 : ∀ i s nx, i < n → inv i s → (∀ s', inv (i + 1) s' → Ends (nx s') P) → Ends (f i s nx k) P) :
  ∀ (m i : Nat) (s : S), m + i = n → inv i s → Ends (forC m i f s k) P
 | 0, i, s, e, h => by
  obtain rfl : i = n := by omega
  exact h0 s h
 | m + 1, i, s, e, h => by
  unfold forC
  exact h1 i s _ (by omega) h fun s' hs => forC_ex n inv h0 h1 m (i + 1) s' (by omega) hs
theorem loopN_ex {f : S → (S → Option Z) → (S → Option Z) → Option Z} {k : S → Option Z} (inv : S → Prop) (mu : S → Nat)
  (h : ∀ s nx, inv s → (∀ s', inv s' → mu s' < mu s → Ends (nx s') P) → Ends (f s nx k) P) : ∀ (N : Nat) (s : S), inv s → mu s < N → Ends (loopN N f s k) P
 | 0, s, _, hm => by omega
 | N + 1, s, hi, hm => by
  unfold loopN
  exact h s _ hi fun s' hs' hlt => loopN_ex inv mu h N s' hs' (by omega)
theorem loopN_exF {f : S → (S → Option Z) → (S → Option Z) → Option Z} {k : S → Option Z} (inv : S → Prop) (mu : S → Nat)
  (h : ∀ s nx, inv s → (∀ s', inv s' → mu s' < mu s → Ends (nx s') P) → Ends (f s nx k) P) (s : S) (hi : inv s) (hm : mu s < 1099511627776) : Ends (loopN Fuel f s k) P := by
 obtain ⟨N, hN⟩ : ∃ N, Fuel = N := ⟨_, rfl⟩
 have hN2 : 1099511627776 ≤ N := hN ▸ fuel_ge
 rw [hN]
 exact loopN_ex inv mu h N s hi (by omega)
theorem loopN_exJ0 {f : S → (S → Option Z) → (S → Option Z) → Option Z} {k : S → Option Z} (inv : Nat → S → Prop)
  (h : ∀ j s nx, inv j s → (∀ j' s', j' < j → inv j' s' → Ends (nx s') P) → Ends (f s nx k) P) : ∀ (N j : Nat) (s : S), inv j s → j < N → Ends (loopN N f s k) P
 | 0, j, s, _, hm => by omega
 | N + 1, j, s, hi, hm => by
  unfold loopN
  exact h j s _ hi fun j' s' hlt hs' => loopN_exJ0 inv h N j' s' hs' (by omega)
theorem loopN_exJ {f : S → (S → Option Z) → (S → Option Z) → Option Z} {k : S → Option Z} (inv : Nat → S → Prop)
  (h : ∀ j s nx, inv j s → (∀ j' s', j' < j → inv j' s' → Ends (nx s') P) → Ends (f s nx k) P) (j : Nat) (s : S) (hi : inv j s) (hm : j < 1099511627776) : Ends (loopN Fuel f s k) P := by
 obtain ⟨N, hN⟩ : ∃ N, Fuel = N := ⟨_, rfl⟩
 have hN2 : 1099511627776 ≤ N := hN ▸ fuel_ge
 rw [hN]
 exact loopN_exJ0 inv h N j s hi (by omega)
theorem forL_run {f : Nat → α → S → (S → Option Z) → (S → Option Z) → Option Z} {k : S → Option Z} (inv : Nat → List α → S → Prop) (R : Nat → List α → S → Option Z)
  (h0 : ∀ i s, inv i [] s → k s = R i [] s) (h1 : ∀ i x l s nx, inv i (x :: l) s → (∀ s', inv (i + 1) l s' → nx s' = R (i + 1) l s') → f i x s nx k = R i (x :: l) s) :
  ∀ (l : List α) (i : Nat) (s : S), inv i l s → forL l i f s k = R i l s
 | [], i, s, h => h0 i s h
 | x :: l, i, s, h => h1 i x l s _ h fun s' hs => forL_run inv R h0 h1 l (i + 1) s' hs
theorem getD_set (o : List α) (i p : Nat) (x d : α) (h : i < o.length) : (o.set i x).getD p d = if i = p then x else o.getD p d := by
 simp only [List.getD_eq_getElem?_getD, List.getElem?_set]
 by_cases e : i = p
 ·subst e; simp [h]
 ·simp [e]
end
def cmpL : List Int → List Int → Int
 | [], [] => 0
 | [], _ :: _ => -1
 | _ :: _, [] => 1
 | x :: a, y :: b => bif decide (x < y) then -1 else bif decide (y < x) then 1 else cmpL a b
def lexL : List Int → List Int → Prop
 | x :: a, y :: b => x < y ∨ x = y ∧ lexL a b
 | _, _ => False
theorem lexL_irr : ∀ a, ¬ lexL a a
 | [] => id
 | x :: a => by
  rintro (h | ⟨_, h⟩)
  ·omega
  ·exact lexL_irr a h
theorem lexL_trans : ∀ {a b c}, lexL a b → lexL b c → lexL a c
 | x :: a, y :: b, z :: c, h1, h2 => by
  rcases h1 with h1 | ⟨rfl, h1⟩ <;> rcases h2 with h2 | ⟨rfl, h2⟩
  ·exact .inl (by omega)
  ·exact .inl h1
  ·exact .inl h2
  ·exact .inr ⟨rfl, lexL_trans h1 h2⟩
 | x :: a, y :: b, [], _, h2 => h2.elim
theorem lexL_tri : ∀ {a b : List Int}, a.length = b.length → lexL a b ∨ a = b ∨ lexL b a
 | [], [], _ => .inr (.inl rfl)
 | x :: a, y :: b, h => by
  rcases Int.lt_trichotomy x y with h1 | rfl | h1
  ·exact .inl (.inl h1)
  ·rcases lexL_tri (a := a) (b := b) (by simpa using h) with h2 | rfl | h2
   ·exact .inl (.inr ⟨rfl, h2⟩)
   ·exact .inr (.inl rfl)
   ·exact .inr (.inr (.inr ⟨rfl, h2⟩))
  ·exact .inr (.inr (.inl h1))
theorem lexL_app (v : List Int) : ∀ {a b}, lexL a b → lexL (a ++ v) (b ++ v)
 | x :: a, y :: b, h => by
  rcases h with h | ⟨rfl, h⟩
  ·exact .inl h
  ·exact .inr ⟨rfl, lexL_app v h⟩
theorem cmpL_lt : ∀ {a b : List Int}, a.length = b.length → (cmpL a b < 0 ↔ lexL a b)
 | [], [], _ => by simp [cmpL, lexL]
 | x :: a, y :: b, h => by
  have ih := cmpL_lt (a := a) (b := b) (by simpa using h)
  unfold cmpL lexL
  by_cases h1 : x < y
  ·simp [h1]
  ·rw [decide_eq_false h1, cond_false]
   by_cases h2 : y < x
   ·rw [decide_eq_true h2, cond_true]
    constructor
    ·intro h; omega
    ·rintro (h | ⟨h, _⟩) <;> omega
   ·rw [decide_eq_false h2, cond_false, ih]
    have : x = y := by omega
    simp [this]
abbrev Rt := Int × List Int
def Lt (a b : Rt) : Prop := a.1 < b.1 ∨ a.1 = b.1 ∧ (a.2.length < b.2.length ∨ a.2.length = b.2.length ∧ lexL a.2 b.2)
theorem Lt_irr (a : Rt) : ¬ Lt a a := by
 rintro (h | ⟨_, h | ⟨_, h⟩⟩)
 ·omega
 ·omega
 ·exact lexL_irr _ h
theorem Lt_trans {a b c : Rt} (h1 : Lt a b) (h2 : Lt b c) : Lt a c := by
 rcases h1 with h1 | ⟨e1, h1 | ⟨f1, h1⟩⟩ <;> rcases h2 with h2 | ⟨e2, h2 | ⟨f2, h2⟩⟩
 ·exact .inl (by omega)
 ·exact .inl (by omega)
 ·exact .inl (by omega)
 ·exact .inl (by omega)
 ·exact .inr ⟨by omega, .inl (by omega)⟩
 ·exact .inr ⟨by omega, .inl (by omega)⟩
 ·exact .inl (by omega)
 ·exact .inr ⟨by omega, .inl (by omega)⟩
 ·exact .inr ⟨by omega, .inr ⟨by omega, lexL_trans h1 h2⟩⟩
theorem Lt_tri (a b : Rt) : Lt a b ∨ a = b ∨ Lt b a := by
 rcases Int.lt_trichotomy a.1 b.1 with h | h | h
 ·exact .inl (.inl h)
 ·rcases Nat.lt_trichotomy a.2.length b.2.length with g | g | g
  ·exact .inl (.inr ⟨h, .inl g⟩)
  ·rcases lexL_tri g with k | k | k
   ·exact .inl (.inr ⟨h, .inr ⟨g, k⟩⟩)
   ·exact .inr (.inl (Prod.ext h k))
   ·exact .inr (.inr (.inr ⟨h.symm, .inr ⟨g.symm, k⟩⟩))
  ·exact .inr (.inr (.inr ⟨h.symm, .inl g⟩))
 ·exact .inr (.inr (.inl h))
def Le (a b : Rt) : Prop := ¬ Lt b a
theorem Le_refl (a : Rt) : Le a a := Lt_irr a
theorem Le_of_Lt {a b : Rt} (h : Lt a b) : Le a b := fun h' => Lt_irr _ (Lt_trans h h')
theorem Le_trans {a b c : Rt} (h1 : Le a b) (h2 : Le b c) : Le a c := by
 intro h
 rcases Lt_tri a b with g | rfl | g
 ·exact h2 (Lt_trans h g)
 ·exact h2 h
 ·exact h1 g
theorem Le_anti {a b : Rt} (h1 : Le a b) (h2 : Le b a) : a = b := by
 rcases Lt_tri a b with g | g | g
 ·exact (h2 g).elim
 ·exact g
 ·exact (h1 g).elim
def ex (r : Rt) (v c : Int) : Rt := (r.1 + c, r.2 ++ [v])
theorem Le_ex (r : Rt) (v c : Int) (h : 0 ≤ c) : Le r (ex r v c) := Le_of_Lt (by
 unfold Lt ex
 simp only [List.length_append, List.length_cons, List.length_nil]
 omega)
theorem ex_mono {a b : Rt} (v c : Int) (h : Le a b) : Le (ex a v c) (ex b v c) := by
 intro h'
 refine h ?_
 rcases h' with h' | ⟨e, h' | ⟨f, h'⟩⟩
 ·exact .inl (by simp only [ex] at h'; omega)
 ·simp only [ex, List.length_append] at e h'
  exact .inr ⟨by omega, .inl (by omega)⟩
 ·simp only [ex, List.length_append] at e f h'
  have hl : b.2.length = a.2.length := by omega
  rcases lexL_tri hl with g | g | g
  ·exact .inr ⟨by omega, .inr ⟨hl, g⟩⟩
  ·rw [g] at h'; exact (lexL_irr _ h').elim
  ·exact (lexL_irr _ (lexL_trans h' (lexL_app [v] g))).elim
theorem cmpInt (x y : Int) : cmp_Compare_int x y = some (bif decide (x < y) then -1 else bif decide (y < x) then 1 else 0) := by
 unfold cmp_Compare_int cmp_isNaN_int
 simp only [call_some, decide_true, Bool.not_true, cond_false]
 cases decide (x < y) <;> cases decide (y < x) <;> rfl
theorem slCmp (a b : List Int) : slices_Compare_int_int a b = some (cmpL a b) := by
 unfold slices_Compare_int_int
 rw [jp_eq]
 refine (forL_run (fun i l _ => i + l.length = a.length) (fun i l _ => some (cmpL l (b.drop i))) (fun i s hi => ?_) (fun i x l s nx hi hnx => ?_) a 0 () (by simp)).trans (by simp)
 ·simp only [List.length_nil, Nat.add_zero] at hi
  subst hi
  by_cases h : a.length < b.length
  ·rw [decide_eq_true (by omega), cond_true, List.drop_eq_getElem_cons h]; rfl
  ·rw [decide_eq_false (by omega), cond_false, List.drop_eq_nil_of_le (by omega)]; rfl
 ·by_cases h : i < b.length
  ·rw [decide_eq_false (by omega), cond_false, idx_eq h, cmpInt, call_some, List.drop_eq_getElem_cons h]
   simp only [cmpL]
   by_cases h1 : x < b[i]
   ·simp [h1]
   ·by_cases h2 : b[i] < x
    ·simp [h1, h2]
    ·simp only [h1, h2, decide_false, cond_false]
     exact hnx () (by simp at hi; omega)
  ·rw [decide_eq_true (by omega), cond_true, List.drop_eq_nil_of_le (by omega)]
   simp [cmpL]
theorem cmpOr3 (a b c : Int) : cmp_Or_int [a, b, c] = some (bif !decide (a = 0) then a else bif !decide (b = 0) then b else c) := by
 unfold cmp_Or_int
 simp only [jp_eq, forL]
 by_cases h1 : a = 0 <;> by_cases h2 : b = 0 <;> by_cases h3 : c = 0 <;> simp [h1, h2, h3]
def drt (r : delta_route) : Rt := (r.cost, r.list)
theorem cmpR (a b : delta_route) : ∃ c, delta_compareRoutes a b = some c ∧ (c < 0 ↔ Lt (drt a) (drt b)) := by
 unfold delta_compareRoutes
 simp only [cmpInt, call_some, slCmp, cmpOr3]
 refine ⟨_, rfl, ?_⟩
 unfold Lt drt
 simp only
 by_cases h1 : a.cost < b.cost
 ·simp [h1]
 ·by_cases h2 : b.cost < a.cost
  ·simp only [h1, h2, decide_false, decide_true, cond_false, cond_true]
   simp
   omega
  ·have e : a.cost = b.cost := by omega
   by_cases g1 : a.list.length < b.list.length
   ·simp [e, g1]
   ·by_cases g2 : b.list.length < a.list.length
    ·simp [e, g1, g2]
     omega
    ·have f : a.list.length = b.list.length := by omega
     simp [e, f, cmpL_lt f]
def rrt (r : outref1_route) : Rt := (r.cost, r.steps)
theorem lessR (a b : outref1_route) : ∃ c, R_route_less a b = some c ∧ (c = true ↔ Lt (rrt a) (rrt b)) := by
 unfold R_route_less
 simp only [slCmp, call_some]
 unfold Lt rrt
 simp only
 by_cases h1 : a.cost = b.cost
 ·by_cases h2 : a.steps.length = b.steps.length
  ·simp [h1, h2, cmpL_lt h2]
  ·have : ¬ (a.steps.length : Int) = b.steps.length := by omega
   simp only [h1, this, decide_true, Bool.not_true, cond_false, decide_false, Bool.not_false, cond_true]
   refine ⟨_, rfl, ?_⟩
   simp [h2]
 ·simp only [h1, decide_false, Bool.not_false, cond_true]
  refine ⟨_, rfl, ?_⟩
  simp [h1]
inductive Wk (E : Int → Int → Int → Prop) (s : Int) : Int → Rt → Prop
 | nil : Wk E s s (0, [])
 | snoc {u r v c} : Wk E s u r → E u v c → Wk E s v (ex r v c)
def Opt (E : Int → Int → Int → Prop) (s v : Int) (r : Rt) : Prop := Wk E s v r ∧ ∀ r', Wk E s v r' → Le r r'
theorem Opt_unique {E : Int → Int → Int → Prop} {s v : Int} {r r' : Rt} (h : Opt E s v r) (h' : Opt E s v r') : r = r' := Le_anti (h.2 _ h'.1) (h'.2 _ h.1)
def Ed (l : List api_Way) (sizes : List Int) (u v c : Int) : Prop := (v ≠ u ∧ ∃ i : Nat, v = i ∧ sizes[i]? = some c) ∨ ∃ w ∈ l, w.From = u ∧ w.To = v ∧ w.Cost = c
structure Good (l : List api_Way) (sizes : List Int) : Prop where
 n : sizes.length ≤ 9
 m : l.length ≤ 40
 sz : ∀ c ∈ sizes, 0 ≤ c ∧ c ≤ 1000000000
 wy : ∀ w ∈ l, 0 ≤ w.From ∧ w.From < sizes.length ∧ 0 ≤ w.To ∧ w.To < sizes.length ∧ w.From ≠ w.To ∧ 0 ≤ w.Cost ∧ w.Cost ≤ 1000000000
variable {l : List api_Way} {sizes : List Int}
theorem Good.ed (g : Good l sizes) {u v c : Int} (h : Ed l sizes u v c) : v ≠ u ∧ 0 ≤ v ∧ v < sizes.length ∧ 0 ≤ c ∧ c ≤ 1000000000 := by
 rcases h with ⟨h, i, rfl, hi⟩ | ⟨w, hw, rfl, rfl, rfl⟩
 ·have := g.sz c (List.mem_of_getElem? hi)
  have hl := (List.getElem?_eq_some_iff.1 hi).1
  exact ⟨h, by omega, by omega, this.1, this.2⟩
 ·obtain ⟨h1, h2, h3, h4, h5, h6, h7⟩ := g.wy w hw
  exact ⟨fun e => h5 e.symm, h3, h4, h6, h7⟩
theorem Good.walk (g : Good l sizes) {s v : Int} {r : Rt} (h : Wk (Ed l sizes) s v r) : 0 ≤ r.1 ∧ r.1 ≤ 1000000000 * r.2.length ∧ (v = s ∨ 0 ≤ v ∧ v < sizes.length) := by
 induction h with
 | nil => simp
 | snoc h1 h2 ih =>
  have := g.ed h2
  simp only [ex, List.length_append, List.length_cons, List.length_nil]
  refine ⟨by omega, by omega, .inr ⟨by omega, by omega⟩⟩
theorem Le_zero {r : Rt} (h : 0 ≤ r.1) : Le (0, []) r := by
 rintro (h' | ⟨_, h' | ⟨h', h''⟩⟩)
 ·simp only at h'; omega
 ·simp at h'
 ·cases hr : r.2 with
  | nil => rw [hr] at h''; exact h''
  | cons a b => rw [hr] at h'; simp at h'
theorem Good.reach (g : Good l sizes) {s v : Int} (h0 : 0 ≤ v) (h1 : v < sizes.length) : ∃ r, Wk (Ed l sizes) s v r := by
 by_cases h : v = s
 ·subst h; exact ⟨_, Wk.nil⟩
 ·have hl : v.toNat < sizes.length := by omega
  exact ⟨_, Wk.snoc (c := sizes[v.toNat]) Wk.nil (.inl ⟨h, v.toNat, by omega, List.getElem?_eq_getElem hl⟩)⟩
section
variable {K V : Type} [DecidableEq K]
theorem alook_ne {m : List (K × V)} {p : K × V} {k : K} (h : ¬ p.1 = k) : alook (p :: m) k = alook m k := by rw [alook, decide_eq_false h]; rfl
theorem alook_eq {m : List (K × V)} {p : K × V} {k : K} (h : p.1 = k) : alook (p :: m) k = some p.2 := by rw [alook, decide_eq_true h]; rfl
theorem aset_ne {m : List (K × V)} {p : K × V} {k : K} {v : V} (h : ¬ p.1 = k) : aset (p :: m) k v = p :: aset m k v := by rw [aset, decide_eq_false h]; rfl
theorem aset_eq {m : List (K × V)} {p : K × V} {k : K} {v : V} (h : p.1 = k) : aset (p :: m) k v = (k, v) :: m := by rw [aset, decide_eq_true h]; rfl
theorem alook_aset : ∀ (m : List (K × V)) (k : K) (v : V) (k' : K), alook (aset m k v) k' = if k = k' then some v else alook m k'
 | [], k, v, k' => by
  simp only [aset, alook]
  by_cases h : k = k' <;> simp [h]
 | p :: m, k, v, k' => by
  unfold aset
  by_cases h : p.1 = k
  ·rw [decide_eq_true h, cond_true]
   simp only [alook]
   by_cases h' : k = k'
   ·simp [h']
   ·have : ¬ p.1 = k' := fun e => h' (h ▸ e)
    simp [h', this]
  ·rw [decide_eq_false h, cond_false]
   simp only [alook]
   rw [alook_aset m k v k']
   by_cases h' : k = k'
   ·have : ¬ p.1 = k' := fun e => h (e.trans h'.symm)
    simp [h', this]
   ·simp only [if_neg h']
theorem alook_none : ∀ {m : List (K × V)} {k : K}, alook m k = none ↔ k ∉ m.map (·.1)
 | [], k => by simp [alook]
 | p :: m, k => by
  simp only [alook, List.map_cons, List.mem_cons]
  by_cases h : p.1 = k
  ·simp [h]
  ·rw [decide_eq_false h, cond_false, alook_none]
   simp [Ne.symm h]
theorem mem_keys {m : List (K × V)} {k : K} : k ∈ m.map (·.1) ↔ (alook m k).isSome = true := by
 have := @alook_none K V _ m k
 cases h : alook m k with
 | none => simpa using this.1 h
 | some v =>
  simp only [Option.isSome_some, iff_true]
  refine Classical.byContradiction fun hc => ?_
  rw [this.2 hc] at h; cases h
theorem keys_aset : ∀ (m : List (K × V)) (k : K) (v : V), (aset m k v).map (·.1) = m.map (·.1) ++ if (alook m k).isSome then [] else [k]
 | [], k, v => by simp [aset, alook]
 | p :: m, k, v => by
  by_cases h : p.1 = k
  ·rw [aset_eq h, alook_eq h]; simp [h]
  ·rw [aset_ne h, alook_ne h, List.map_cons, keys_aset m k v]; rfl
theorem nodup_aset {m : List (K × V)} (h : (m.map (·.1)).Nodup) (k : K) (v : V) : ((aset m k v).map (·.1)).Nodup := by
 rw [keys_aset]
 split
 ·simpa using h
 ·rename_i hs
  have : k ∉ m.map (·.1) := fun hk => hs (mem_keys.1 hk)
  rw [List.nodup_append]
  exact ⟨h, by simp, fun a ha b hb e => by simp at hb; subst hb; subst e; exact this ha⟩
end
section
variable {α S β : Type}
theorem forM_run {f : α → S → (S → Option β) → (S → Option β) → Option β} {k : S → Option β} {z : β} (inv : List α → S → Prop)
  (h0 : ∀ s, inv [] s → k s = some z) (h1 : ∀ r s nx x j, inv r s → r[j]? = some x → (∀ s', inv (r.eraseIdx j) s' → nx s' = some z) → f x s nx k = some z) :
  ∀ (n : Nat) (r : List α) (s : S), r.length = n → inv r s → forM f n r s k = some z
 | 0, [], s, _, h => h0 s h
 | n + 1, r, s, hn, h => by
  unfold Go.Vc.forM
  refine anyOf_intro ⟨0, by omega⟩ fun j hj => ?_
  rw [List.getElem?_eq_getElem hj]
  exact h1 r s _ r[j] j h (List.getElem?_eq_getElem hj) fun s' hs => forM_run inv h0 h1 n (r.eraseIdx j) s' (by rw [List.length_eraseIdx, if_pos hj]; omega) hs
theorem perm_eraseIdx : ∀ {r : List α} {j : Nat} {x : α}, r[j]? = some x → r.Perm (x :: r.eraseIdx j)
 | [], _, _, h => by cases h
 | y :: r, 0, x, h => by
  simp at h; subst h; simp
 | y :: r, j + 1, x, h => by
  simp only [List.getElem?_cons_succ] at h
  rw [List.eraseIdx_cons_succ]
  exact ((perm_eraseIdx h).cons y).trans (.swap x y _)
end
theorem iswp_perm {l o : List Int} {i j : Nat} {d d' : Int} (h : o.Perm l) (h1 : i < o.length) (h2 : j < o.length) : (List.set (List.set o i (o.getD j d)) j (o.getD i d')).Perm l := by
 have e1 : o.getD i d' = o[i] := by rw [List.getD_eq_getElem?_getD, List.getElem?_eq_getElem h1]; rfl
 have e2 : o.getD j d = o[j] := by rw [List.getD_eq_getElem?_getD, List.getElem?_eq_getElem h2]; rfl
 rw [e1, e2]
 exact (List.set_set_perm h1 h2).trans h
abbrev iAt (o : List Int) (p : Nat) : Int := o.getD p 0
structure ISorted (o0 o : List Int) : Prop where
 pm : o.Perm o0
 ord : ∀ p q, p < q → q < o.length → iAt o p ≤ iAt o q
theorem lessInt (x y : Int) : cmp_Less_int x y = some (decide (x < y)) := by
 unfold cmp_Less_int cmp_isNaN_int
 simp only [decide_true, Bool.not_true, call_some, callG_false, Bool.false_and, Bool.false_or]
theorem insSortI (o0 : List Int) (hn : o0.length ≤ 1073741824) : Ends (slices_insertionSortOrdered_int_i1 0 (o0.length : Int) o0) (ISorted o0) := by
 unfold slices_insertionSortOrdered_int_i1
 rw [show IntKind.i64.wrap ((0 : Int) + 1) = ((1 : Nat) : Int) from rfl]
 refine loopN_exF (fun st : Int × List Int => ∃ i : Nat, st.1 = i ∧ 1 ≤ i ∧ (i ≤ o0.length ∨ i = 1) ∧ st.2.Perm o0 ∧ ∀ p q, p < q → q < i → q < o0.length → iAt st.2 p ≤ iAt st.2 q) (fun st => o0.length - st.1.toNat) ?_ _ ⟨1, rfl, by omega, by omega, List.Perm.refl _, fun p q h1 h2 => by omega⟩ (by simp only; omega)
 rintro ⟨i', o⟩ nx ⟨i, rfl, hi1, hi, hs, ho⟩ hnx
 simp only at hs ho hnx ⊢
 have hl := hs.length_eq
 by_cases hlt : i < o0.length
 ·rw [decide_eq_true (by omega), cond_true, jp_eq]
  refine loopN_exF (fun st : Int × List Int => ∃ j : Nat, st.1 = j ∧ j ≤ i ∧ st.2.Perm o0 ∧ (∀ p q, p < q → q ≤ i → q ≠ j → iAt st.2 p ≤ iAt st.2 q)) (fun st => st.1.toNat) ?_ _ ⟨i, rfl, Nat.le_refl _, hs, fun p q h1 h2 h3 => ho p q h1 (by omega) (by omega)⟩ (by simp only; omega)
  rintro ⟨j', o1⟩ nx1 ⟨j, rfl, hj, hs1, ho1⟩ hnx1
  simp only at hs1 ho1 hnx1 ⊢
  have hl1 := hs1.length_eq
  have hend : (j = 0 ∨ ¬ iAt o1 j < iAt o1 (j - 1)) → Ends (nx (IntKind.i64.wrap ((i : Int) + 1), o1)) (ISorted o0) := by
   intro hj0
   rw [wrapS (by omega) (by omega)]
   refine hnx _ ⟨i + 1, by simp only; omega, by omega, by omega, hs1, fun p q h1 h2 h3 => ?_⟩ (by simp only; omega)
   by_cases hq : q = j
   ·subst hq
    rcases hj0 with hj0 | hj0
    ·omega
    ·by_cases hp : p = q - 1
     ·rw [hp]; show iAt o1 (q - 1) ≤ iAt o1 q; omega
     ·have h4 := ho1 p (q - 1) (by omega) (by omega) (by omega)
      show iAt o1 p ≤ iAt o1 q
      omega
   ·exact ho1 p q h1 (by omega) hq
  by_cases hj0 : 0 < j
  ·have hw : IntKind.i64.wrap ((j : Int) - 1) = ((j - 1 : Nat) : Int) := by rw [wrapS (by omega) (by omega)]; omega
   simp only [hw]
   rw [decide_eq_true (by omega), chk_true (by intro _; omega), chk_true (by intro _; omega), callG_true, lessInt, call_some, Bool.true_and]
   simp only [Int.toNat_natCast]
   by_cases hc : iAt o1 j < iAt o1 (j - 1)
   ·rw [decide_eq_true hc, cond_true, chk_true (by omega), chk_true (by omega), chk_true (by omega), chk_true (by simp only [List.length_set]; omega)]
    refine hnx1 _ ⟨j - 1, rfl, by omega, iswp_perm hs1 (by omega) (by omega), fun p q h1 h2 h3 => ?_⟩ (by simp only; omega)
    have hset : ∀ p, iAt ((o1.set j (o1.getD (j - 1) 0)).set (j - 1) (o1.getD j 0)) p = if p = j - 1 then iAt o1 j else if p = j then iAt o1 (j - 1) else iAt o1 p := by
     intro p
     unfold iAt
     rw [getD_set _ _ _ _ _ (by simp only [List.length_set]; omega), getD_set _ _ _ _ _ (by omega)]
     by_cases e1 : j - 1 = p
     ·rw [if_pos e1, if_pos e1.symm]
     ·have e1' : ¬ p = j - 1 := fun e => e1 e.symm
      rw [if_neg e1, if_neg e1']
      by_cases e2 : j = p
      ·rw [if_pos e2, if_pos e2.symm]
      ·have e2' : ¬ p = j := fun e => e2 e.symm
       rw [if_neg e2, if_neg e2']
    show iAt ((o1.set j (o1.getD (j - 1) 0)).set (j - 1) (o1.getD j 0)) p ≤ iAt ((o1.set j (o1.getD (j - 1) 0)).set (j - 1) (o1.getD j 0)) q
    rw [hset, hset]
    rw [if_neg h3]
    by_cases hq : q = j
    ·subst hq
     rw [if_pos rfl]
     by_cases hp : p = q - 1
     ·rw [if_pos hp]; omega
     ·rw [if_neg hp, if_neg (by omega)]
      exact ho1 p (q - 1) (by omega) (by omega) (by omega)
    ·rw [if_neg hq]
     by_cases hp : p = j - 1
     ·rw [if_pos hp]
      exact ho1 j q (by omega) h2 hq
     ·rw [if_neg hp]
      by_cases hp2 : p = j
      ·rw [if_pos hp2]
       exact ho1 (j - 1) q (by omega) h2 hq
      ·rw [if_neg hp2]
       exact ho1 p q h1 h2 hq
   ·rw [decide_eq_false hc, cond_false]
    exact hend (.inr hc)
  ·rw [decide_eq_false (by omega), chk_true (by intro h; cases h), chk_true (by intro h; cases h), callG_false, Bool.false_and, cond_false]
   exact hend (.inl (by omega))
 ·rw [decide_eq_false (by omega), cond_false]
  exact ⟨_, rfl, hs, fun p q h1 h2 => ho p q h1 (by omega) (by omega)⟩
def iSort (l : List Int) : List Int := l.mergeSort fun a b => decide (a ≤ b)
theorem ile_trans (a b c : Int) (h1 : decide (a ≤ b) = true) (h2 : decide (b ≤ c) = true) : decide (a ≤ c) = true := by
 simp only [decide_eq_true_eq] at *; omega
theorem ile_total (a b : Int) : (decide (a ≤ b) || decide (b ≤ a)) = true := by
 simp only [Bool.or_eq_true, decide_eq_true_eq]; omega
theorem iSort_perm (l : List Int) : (iSort l).Perm l := List.mergeSort_perm l _
theorem iSort_of {l l' : List Int} (h : ISorted l l') : l' = iSort l := by
 refine List.Perm.eq_of_pairwise (le := fun a b : Int => a ≤ b) (fun a b _ _ h1 h2 => by omega) ?_ ?_ (h.pm.trans (iSort_perm l).symm)
 ·rw [List.pairwise_iff_getElem]
  intro i j hi hj hij
  have := h.ord i j hij hj
  simpa [iAt, List.getD_eq_getElem?_getD, hi, hj] using this
 ·have := List.pairwise_mergeSort ile_trans ile_total l
  exact this.imp fun h => of_decide_eq_true h
theorem iSort_congr {l l' : List Int} (h : l.Perm l') : iSort l = iSort l' := by
 refine List.Perm.eq_of_pairwise (le := fun a b : Int => a ≤ b) (fun a b _ _ h1 h2 => by omega) ?_ ?_ ((iSort_perm l).trans (h.trans (iSort_perm l').symm))
 ·exact (List.pairwise_mergeSort ile_trans ile_total l).imp fun h => of_decide_eq_true h
 ·exact (List.pairwise_mergeSort ile_trans ile_total l').imp fun h => of_decide_eq_true h
theorem bitsLen (n : Nat) (h : n ≤ 12) : ∃ r, math_bits_Len (IntKind.u64.wrap (n : Int)) = some r := by
 have e : IntKind.u64.wrap (n : Int) = n := by
  rcases n with _ | _ | _ | _ | _ | _ | _ | _ | _ | _ | _ | _ | _ | n <;> first | rfl | omega
 rw [e]
 rcases n with _ | _ | _ | _ | _ | _ | _ | _ | _ | _ | _ | _ | _ | n
 all_goals first | exact ⟨_, rfl⟩ | omega
theorem sortInt (l : List Int) (h : l.length ≤ 12) : slices_Sort_int_int_i1 l = some (iSort l) := by
 unfold slices_Sort_int_int_i1
 obtain ⟨r, hr⟩ := bitsLen l.length h
 rw [hr, call_some]
 unfold slices_pdqsortOrdered_int_i1
 obtain ⟨N, hN⟩ : ∃ N, Fuel = N + 1 := ⟨1099511627775, rfl⟩
 obtain ⟨o, ho, hs⟩ := insSortI l (by omega)
 rw [hN]
 unfold loopN
 rw [wrapS (by omega) (by omega), decide_eq_true (by omega), cond_true, ho, call_some, call_some, iSort_of hs]
theorem keysOf_eq (m : List (Int × outref1_route)) (h : m.length ≤ 12) : R_keysOf_i1 m = some (iSort (m.map (·.1))) := by
 unfold R_keysOf_i1
 rw [jp_eq]
 refine forM_run (fun r o => (o ++ r.map (·.1)).Perm (m.map (·.1))) (fun o ho => ?_) (fun r o nx x j hr hj hnx => ?_) _ m [] rfl (by simp)
 ·simp only [List.map_nil, List.append_nil] at ho
  dsimp only
  rw [sortInt o (by have := ho.length_eq; simp at this; omega), call_some, iSort_congr ho]
 ·have hp : r.Perm (x :: r.eraseIdx j) := perm_eraseIdx hj
  have hl := hr.length_eq
  have hpl := hp.length_eq
  simp only [List.length_append, List.length_map, List.length_cons] at hl hpl
  rw [chk_true (by simp only [List.length_append, List.length_cons, List.length_nil]; omega)]
  refine hnx _ ?_
  rw [List.append_assoc]
  exact (List.Perm.append_left o ((hp.map (·.1)).symm)).trans hr
theorem nodup_len : ∀ (n : Nat) (l : List Int), l.Nodup → (∀ x ∈ l, 0 ≤ x ∧ x < n) → l.length ≤ n
 | 0, [], _, _ => Nat.le_refl _
 | 0, x :: l, _, h => by have := h x (List.mem_cons_self ..); omega
 | n + 1, l, hd, h => by
  have h1 := nodup_len n (l.erase (n : Int)) (hd.erase _) (fun x hx => by
   have hm := (List.Nodup.mem_erase_iff hd).1 hx
   have := h x hm.2
   have := hm.1
   omega)
  have h2 := List.length_erase (a := (n : Int)) (l := l)
  split at h2 <;> omega
theorem nodup_len1 (n : Nat) (s : Int) (l : List Int) (hd : l.Nodup) (h : ∀ x ∈ l, x = s ∨ 0 ≤ x ∧ x < n) : l.length ≤ n + 1 := by
 have h1 := nodup_len n (l.erase s) (hd.erase _) (fun x hx => by
  have hm := (List.Nodup.mem_erase_iff hd).1 hx
  rcases h x hm.2 with g | g
  ·exact (hm.1 g).elim
  ·exact g)
 have h2 := List.length_erase (a := s) (l := l)
 split at h2 <;> omega
variable {l : List api_Way} {sizes : List Int} {s : Int}
theorem Wk.nodes (g : Good l sizes) {v : Int} {r : Rt} (h : Wk (Ed l sizes) s v r) : ∀ x ∈ r.2, 0 ≤ x ∧ x < sizes.length := by
 induction h with
 | nil => intro x hx; cases hx
 | snoc h1 h2 ih =>
  intro x hx
  simp only [ex, List.mem_append, List.mem_singleton] at hx
  rcases hx with hx | rfl
  ·exact ih x hx
  ·have := g.ed h2; omega
theorem Wk.cutAt (g : Good l sizes) {v u : Int} {r : Rt} (h : Wk (Ed l sizes) s v r) (hd : r.2.Nodup) (hu : u ∈ r.2) : ∃ p, Wk (Ed l sizes) s u p ∧ p.2.Nodup ∧ Le p r := by
 induction h with
 | nil => cases hu
 | @snoc w p z c h1 h2 ih =>
  have hd' := hd
  simp only [ex] at hd hu
  have hdp := (List.nodup_append.1 hd).1
  have hc := (g.ed h2)
  simp only [List.mem_append, List.mem_singleton] at hu
  rcases hu with hu | rfl
  ·obtain ⟨q, hq, hqd, hql⟩ := ih hdp hu
   exact ⟨q, hq, hqd, Le_trans hql (Le_ex _ _ _ (by omega))⟩
  ·exact ⟨_, Wk.snoc h1 h2, hd', Le_refl _⟩
theorem Wk.simple (g : Good l sizes) {v : Int} {r : Rt} (h : Wk (Ed l sizes) s v r) : ∃ p, Wk (Ed l sizes) s v p ∧ p.2.Nodup ∧ Le p r := by
 induction h with
 | nil => exact ⟨_, Wk.nil, List.nodup_nil, Le_refl _⟩
 | @snoc w p z c h1 h2 ih =>
  obtain ⟨q, hq, hqd, hql⟩ := ih
  have hc := (g.ed h2)
  by_cases hz : z ∈ q.2
  ·obtain ⟨t, ht, htd, htl⟩ := hq.cutAt g hqd hz
   exact ⟨t, ht, htd, Le_trans htl (Le_trans hql (Le_ex _ _ _ (by omega)))⟩
  ·refine ⟨_, Wk.snoc hq h2, ?_, ex_mono _ _ hql⟩
   simp only [ex]
   rw [List.nodup_append]
   exact ⟨hqd, by simp, fun a ha b hb e => by simp at hb; subst hb; subst e; exact hz ha⟩
theorem Wk.short (g : Good l sizes) {v : Int} {r : Rt} (h : Wk (Ed l sizes) s v r) : ∃ p, Wk (Ed l sizes) s v p ∧ p.2.length ≤ 9 ∧ Le p r := by
 obtain ⟨p, hp, hd, hl⟩ := h.simple g
 have := nodup_len sizes.length p.2 hd (hp.nodes g)
 have := g.n
 exact ⟨p, hp, by omega, hl⟩
abbrev RM := List (Int × outref1_route)
def Got (m : RM) (v : Int) (b : Rt) : Prop := ∃ x, alook m v = some x ∧ Le (rrt x) b
def Dec (m m' : RM) : Prop := ∀ v b, Got m v b → Got m' v b
structure RI (l : List api_Way) (sizes : List Int) (s : Int) (M : Nat) (m : RM) : Prop where
 nd : (m.map (·.1)).Nodup
 wk : ∀ v r, alook m v = some r → Wk (Ed l sizes) s v (rrt r) ∧ r.steps.length ≤ M
 src : Got m s (0, [])
theorem RI.len (g : Good l sizes) {M : Nat} {m : RM} (h : RI l sizes s M m) : m.length ≤ 10 := by
 have h1 := nodup_len1 sizes.length s (m.map (·.1)) h.nd (fun x hx => by
  have hx := mem_keys.1 hx
  cases e : alook m x with
  | none => rw [e] at hx; cases hx
  | some r => exact ((g.walk (h.wk x r e).1).2.2))
 have := g.n
 rw [List.length_map] at h1
 omega
theorem RI.mono {M M' : Nat} {m : RM} (h : RI l sizes s M m) (hM : M ≤ M') : RI l sizes s M' m := ⟨h.nd, fun v r e => ⟨(h.wk v r e).1, Nat.le_trans (h.wk v r e).2 hM⟩, h.src⟩
def Top (l : List api_Way) (sizes : List Int) (s : Int) (m : RM) : Prop := ∀ v r, Wk (Ed l sizes) s v r → Got m v r
structure Stp (l : List api_Way) (sizes : List Int) (s : Int) (a b : RM × Bool) : Prop where
 dec : Dec a.1 b.1
 top : Top l sizes s a.1 → b = a
 fl : b.2 = false → b.1 = a.1 ∧ a.2 = false
theorem Stp.refl (a : RM × Bool) : Stp l sizes s a a := ⟨fun _ _ h => h, fun _ => rfl, fun h => ⟨rfl, h⟩⟩
theorem Stp.trans {a b c : RM × Bool} (h : Stp l sizes s a b) (h' : Stp l sizes s b c) : Stp l sizes s a c := ⟨fun v r g => h'.dec v r (h.dec v r g), fun t => by
  have e := h.top t
  subst e
  exact h'.top t, fun f => by
  obtain ⟨e1, e2⟩ := h'.fl f
  obtain ⟨e3, e4⟩ := h.fl e2
  exact ⟨e1.trans e3, e4⟩⟩
theorem cloneI (x : List Int) (h : x.length ≤ 1000000) : slices_Clone_int_int_new x = some x := by
 unfold slices_Clone_int_int_new
 refine anyOf_intro ⟨false, by intro h; cases h⟩ fun b hb => ?_
 cases b
 ·rw [cond_false, chk_true (by simp only [List.nil_append]; omega)]; rfl
 ·rw [cond_true, hb rfl]
theorem go1_ok (g : Good l sizes) {M : Nat} {m : RM} {k v c : Int} {rk : outref1_route} {fl : Bool} (hM : M ≤ 100000) (h : RI l sizes s M m) (hk : alook m k = some rk) (he : Ed l sizes k v c) :
  ∃ m' fl', R_Best_1_i1 v c m k fl = some (m', fl') ∧ RI l sizes s (M + 1) m' ∧ Stp l sizes s (m, fl) (m', fl') ∧ Got m' v (ex (rrt rk) v c) := by
 have hlen := h.len g
 obtain ⟨hwk, hML⟩ := h.wk k rk hk
 have hw2 : Wk (Ed l sizes) s v (ex (rrt rk) v c) := Wk.snoc hwk he
 have hb := g.walk hw2
 simp only [ex, rrt, List.length_append, List.length_cons, List.length_nil] at hb
 have hb2 := g.walk hwk
 simp only [rrt] at hb2
 have hc := g.ed he
 unfold R_Best_1_i1
 rw [letv_eq, hk]
 simp only [Option.getD_some]
 rw [cloneI _ (by omega), call_some, chk_true (by simp only [List.length_append, List.length_cons, List.length_nil]; omega), letv_eq]
 have hwr : IntKind.i64.wrap (rk.cost + c) = rk.cost + c := wrapS (by omega) (by omega)
 have hset : ∀ w, w = rk.cost + c → (∀ x, alook m v = some x → Lt (ex (rrt rk) v c) (rrt x)) → (aset m v (outref1_route.mk w (rk.steps ++ [v]))).length ≤ 274877906944 ∧ RI l sizes s (M + 1) (aset m v (outref1_route.mk w (rk.steps ++ [v]))) ∧ Stp l sizes s (m, fl) (aset m v (outref1_route.mk w (rk.steps ++ [v])), true) ∧ Got (aset m v (outref1_route.mk w (rk.steps ++ [v]))) v (ex (rrt rk) v c) := by
  rintro w rfl hlt
  have hln : (aset m v (outref1_route.mk (rk.cost + c) (rk.steps ++ [v]))).length ≤ 11 := by
   have := congrArg List.length (keys_aset m v (outref1_route.mk (rk.cost + c) (rk.steps ++ [v])))
   simp only [List.length_map, List.length_append] at this
   split at this <;> simp at this <;> omega
  have hdec : Dec m (aset m v (outref1_route.mk (rk.cost + c) (rk.steps ++ [v]))) := by
   rintro u b ⟨x, hx, hxl⟩
   unfold Got
   rw [alook_aset]
   split
   ·rename_i e1
    subst e1
    exact ⟨_, rfl, Le_trans (Le_of_Lt (hlt x hx)) hxl⟩
   ·exact ⟨x, hx, hxl⟩
  refine ⟨by omega, ⟨nodup_aset h.nd _ _, fun u r e => ?_, hdec _ _ h.src⟩, ⟨hdec, fun t => ?_, fun f => by cases f⟩, ?_⟩
  ·rw [alook_aset] at e
   split at e
   ·rename_i e1
    subst e1
    cases e
    exact ⟨hw2, by simp only [List.length_append, List.length_cons, List.length_nil]; omega⟩
   ·exact ⟨(h.wk u r e).1, by have := (h.wk u r e).2; omega⟩
  ·obtain ⟨x, hx, hxl⟩ := t v _ hw2
   exact (hxl (hlt x hx)).elim
  ·exact ⟨_, by rw [alook_aset, if_pos rfl], Le_refl _⟩
 cases e : alook m v with
 | none =>
  simp only [Option.isSome_none, Bool.not_false, Bool.not_true, callG_false, Bool.or_false, cond_true]
  obtain ⟨h1, h2⟩ := hset _ hwr (fun x hx => by rw [e] at hx; cases hx)
  exact ⟨_, _, chk_true h1 _, h2⟩
 | some old =>
  obtain ⟨b, hb, hlt⟩ := lessR (outref1_route.mk (IntKind.i64.wrap (rk.cost + c)) (rk.steps ++ [v])) old
  simp only [Option.isSome_some, Bool.not_true, Bool.not_false, callG_true, Option.getD_some, Bool.false_or]
  rw [hb, call_some]
  simp only [rrt, hwr] at hlt
  cases b with
  | true =>
   rw [cond_true]
   obtain ⟨h1, h2⟩ := hset _ hwr (fun x hx => by rw [e] at hx; cases hx; exact hlt.1 rfl)
   exact ⟨_, _, chk_true h1 _, h2⟩
  | false =>
   rw [cond_false]
   exact ⟨_, _, rfl, h.mono (by omega), Stp.refl _, ⟨old, e, fun h' => by cases hlt.2 h'⟩⟩
theorem R_Best_ok (g : Good l sizes) {to : Int} (h0 : 0 ≤ to) (h1 : to < sizes.length) (h2 : -1 ≤ s) (h3 : s < sizes.length) :
  Ends (R_Best l sizes s to) fun z => z.2.2 = 0 ∧ Opt (Ed l sizes) s to (z.2.1, z.1) := by
 have hn := g.n
 have hm := g.m
 unfold R_Best
 rw [decide_eq_false (by omega), decide_eq_false (by omega), decide_eq_false (by omega), decide_eq_false (by omega)]
 simp only [Bool.or_false, cond_false]
 rw [chk_true (by simp [aset]), jp_eq]
 refine loopN_exJ (fun j st => j ≤ 30 ∧ RI l sizes s (1000 * (30 - j)) st.1 ∧ (st.2 = true → 30 - j ≤ 11 ∧ ∀ v r, Wk (Ed l sizes) s v r → r.2.length ≤ 30 - j → Got st.1 v r) ∧ (st.2 = false → Top l sizes s st.1)) ?_ 30 _ ⟨Nat.le_refl _, ⟨by simp [aset], fun v r e => ?_, ⟨outref1_route.mk 0 [], by simp [aset, alook], Le_refl _⟩⟩, fun _ => ⟨by omega, fun v r hw hl => ?_⟩, fun h => by cases h⟩ (by omega)
 ·rintro j ⟨m, fl⟩ nx ⟨hj, hri, ht, hf⟩ hnx
  simp only at hri ht hf ⊢
  cases fl with
  | false =>
   rw [cond_false]
   have htop := hf rfl
   obtain ⟨r, hr⟩ := g.reach (s := s) h0 h1
   obtain ⟨x, hx, hxl⟩ := htop to r hr
   rw [letv_eq, hx]
   exact ⟨_, rfl, rfl, (hri.wk to x hx).1, fun r' hr' => by
    obtain ⟨y, hy, hyl⟩ := htop to r' hr'
    rw [hx] at hy; cases hy
    exact hyl⟩
  | true =>
   obtain ⟨hj2, hgot⟩ := ht rfl
   rw [cond_true, jp_eq, keysOf_eq m (by have := hri.len g; omega), call_some]
   refine forL_ex (fun i rest st => i + rest.length = m.length ∧ RI l sizes s (1000 * (30 - j) + 50 * i) st.1 ∧ Stp l sizes s (m, false) st ∧ (∀ k ∈ rest, ∃ r, alook m k = some r) ∧ ∀ k r0, alook m k = some r0 → k ∈ rest ∨ ∀ v c, Ed l sizes k v c → Got st.1 v (ex (rrt r0) v c)) (fun i st hi => ?_) (fun i k rest st nx1 hi hnx1 => ?_) _ _ _ ⟨by rw [Nat.zero_add, (iSort_perm _).length_eq, List.length_map], hri, Stp.refl _, fun k hk => ?_, fun k r0 hk => .inl ?_⟩
   ·obtain ⟨m', fl'⟩ := st
    obtain ⟨hi1, hi2, hi3, _, hi4⟩ := hi
    simp only at hi1 hi2 hi3 hi4 ⊢
    have hclo : ∀ k r0, alook m k = some r0 → ∀ v c, Ed l sizes k v c → Got m' v (ex (rrt r0) v c) := fun k r0 hk => by
     rcases hi4 k r0 hk with h | h
     ·cases h
     ·exact h
    have hl := hri.len g
    have hsrc : Got m' s (0, []) := hi2.src
    refine hnx (j - 1) _ (by omega) ⟨by omega, hi2.mono (by simp only [List.length_nil] at hi1; omega), fun hfl => ?_, fun hfl => ?_⟩
    ·simp only at hfl
     have hj3 : 30 - j ≤ 9 := by
      refine Classical.byContradiction fun hc => ?_
      have htop : Top l sizes s m := fun v r hw => by
       obtain ⟨p, hp, hpl, hple⟩ := hw.short g
       obtain ⟨x, hx, hxl⟩ := hgot v p hp (by omega)
       exact ⟨x, hx, Le_trans hxl hple⟩
      have := hi3.top htop
      rw [hfl] at this
      cases this
     refine ⟨by omega, fun v r hw hl => ?_⟩
     cases hw with
     | nil => exact hsrc
     | @snoc u q _ c hw1 hw2 =>
      simp only [ex, List.length_append, List.length_cons, List.length_nil] at hl
      obtain ⟨x, hx, hxl⟩ := hgot u q hw1 (by omega)
      obtain ⟨y, hy, hyl⟩ := hclo u x hx v c hw2
      exact ⟨y, hy, Le_trans hyl (ex_mono _ _ hxl)⟩
    ·simp only at hfl
     have e := (hi3.fl hfl).1
     simp only at e
     subst e
     intro v r hw
     induction hw with
     | nil => exact hsrc
     | snoc hw1 hw2 ih =>
      obtain ⟨x, hx, hxl⟩ := ih
      obtain ⟨y, hy, hyl⟩ := hclo _ x hx _ _ hw2
      exact ⟨y, hy, Le_trans hyl (ex_mono _ _ hxl)⟩
   ·obtain ⟨m1, fl1⟩ := st
    obtain ⟨hi1, hi2, hi3, hi5, hi4⟩ := hi
    simp only at hi1 hi2 hi3 hi4 ⊢
    simp only [List.length_cons] at hi1
    have hl := hri.len g
    obtain ⟨r0, hr0⟩ := hi5 k (List.mem_cons_self ..)
    have hgk : ∀ m2 : RM, Dec m1 m2 → ∃ rk, alook m2 k = some rk ∧ Le (rrt rk) (rrt r0) := fun m2 hd => hd k _ (hi3.dec k _ ⟨r0, hr0, Le_refl _⟩)
    rw [jp_eq, jp_eq]
    refine forL_ex (fun q rest' st => q + rest'.length = sizes.length ∧ (∀ i : Nat, rest'[i]? = sizes[q + i]?) ∧ RI l sizes s (1000 * (30 - j) + 50 * i + q) st.1 ∧ Stp l sizes s (m1, fl1) st ∧ ∀ a : Nat, a < q → ∀ c, sizes[a]? = some c → (a : Int) ≠ k → Got st.1 a (ex (rrt r0) a c)) (fun q st hq => ?_) (fun q n rest' st nx2 hq hnx2 => ?_) _ _ _ ⟨by omega, fun i => by rw [Nat.zero_add], hi2, Stp.refl _, fun a ha => by omega⟩
    ·obtain ⟨m2, fl2⟩ := st
     obtain ⟨hq1, _, hq2, hq3, hq4⟩ := hq
     simp only at hq1 hq2 hq3 hq4 ⊢
     simp only [List.length_nil, Nat.add_zero] at hq1
     refine forL_ex (fun p rest' st => p + rest'.length = l.length ∧ (∀ w ∈ rest', w ∈ l) ∧ RI l sizes s (1000 * (30 - j) + 50 * i + q + p) st.1 ∧ Stp l sizes s (m2, fl2) st ∧ ∀ w ∈ l, w.From = k → w ∈ rest' ∨ Got st.1 w.To (ex (rrt r0) w.To w.Cost)) (fun p st hp => ?_) (fun p w rest' st nx2 hp hnx2 => ?_) _ _ _ ⟨by omega, fun w hw => hw, hq2, Stp.refl _, fun w hw _ => .inl hw⟩
     ·obtain ⟨m3, fl3⟩ := st
      obtain ⟨hp1, _, hp2, hp3, hp4⟩ := hp
      simp only at hp1 hp2 hp3 hp4 ⊢
      simp only [List.length_nil, Nat.add_zero] at hp1
      have hst := hq3.trans hp3
      refine hnx1 _ ⟨by omega, hp2.mono (by omega), hi3.trans hst, fun k' hk' => hi5 k' (List.mem_cons_of_mem _ hk'), fun k' r' hk' => ?_⟩
      by_cases ek : k' = k
      ·subst ek
       rw [hr0] at hk'
       cases hk'
       refine .inr fun v c he => ?_
       rcases he with ⟨hne, a, rfl, ha⟩ | ⟨w, hw, e1, rfl, rfl⟩
       ·exact hp3.dec _ _ (hq4 a (by have := (List.getElem?_eq_some_iff.1 ha).1; omega) c ha hne)
       ·rcases hp4 w hw e1 with h | h
        ·cases h
        ·exact h
      ·rcases hi4 k' r' hk' with h | h
       ·rcases List.mem_cons.1 h with h | h
        ·exact (ek h).elim
        ·exact .inl h
       ·exact .inr fun v c he => hst.dec _ _ (h v c he)
     ·obtain ⟨m3, fl3⟩ := st
      obtain ⟨hp1, hp5, hp2, hp3, hp4⟩ := hp
      simp only at hp1 hp2 hp3 hp4 ⊢
      simp only [List.length_cons] at hp1
      have hwl := hp5 w (List.mem_cons_self ..)
      by_cases ew : w.From = k
      ·rw [decide_eq_true ew, cond_true]
       obtain ⟨rk, hrk, hrkl⟩ := hgk m3 (hq3.trans hp3).dec
       obtain ⟨m4, fl4, e4, hri4, hst4, hg4⟩ := go1_ok (fl := fl3) g (by omega) hp2 hrk (.inr ⟨w, hwl, ew, rfl, rfl⟩ : Ed l sizes k w.To w.Cost)
       rw [e4, call_some]
       refine hnx2 _ ⟨by omega, fun w' hw' => hp5 w' (List.mem_cons_of_mem _ hw'), hri4, hp3.trans hst4, fun w' hw' ew' => ?_⟩
       by_cases eq : w' = w
       ·subst eq
        obtain ⟨x, hx, hxl⟩ := hg4
        exact .inr ⟨x, hx, Le_trans hxl (ex_mono _ _ hrkl)⟩
       ·rcases hp4 w' hw' ew' with h | h
        ·rcases List.mem_cons.1 h with h | h
         ·exact (eq h).elim
         ·exact .inl h
        ·exact .inr (hst4.dec _ _ h)
      ·rw [decide_eq_false ew, cond_false]
       refine hnx2 _ ⟨by omega, fun w' hw' => hp5 w' (List.mem_cons_of_mem _ hw'), hp2.mono (by omega), hp3, fun w' hw' ew' => ?_⟩
       rcases hp4 w' hw' ew' with h | h
       ·rcases List.mem_cons.1 h with h | h
        ·subst h; exact (ew ew').elim
        ·exact .inl h
       ·exact .inr h
    ·obtain ⟨m2, fl2⟩ := st
     obtain ⟨hq1, hq5, hq2, hq3, hq4⟩ := hq
     simp only at hq1 hq2 hq3 hq4 ⊢
     simp only [List.length_cons] at hq1
     have hn0 : sizes[q]? = some n := by have := hq5 0; simpa using this.symm
     have hr5 : ∀ i : Nat, rest'[i]? = sizes[q + 1 + i]? := fun i => by
      have := hq5 (i + 1)
      rw [List.getElem?_cons_succ] at this
      rw [this]; congr 1; omega
     by_cases eq : (q : Int) = k
     ·rw [decide_eq_true eq, Bool.not_true, cond_false]
      refine hnx2 _ ⟨by omega, hr5, hq2.mono (by omega), hq3, fun a ha c hc hne => ?_⟩
      by_cases ea : a = q
      ·subst ea; exact (hne eq).elim
      ·exact hq4 a (by omega) c hc hne
     ·rw [decide_eq_false eq, Bool.not_false, cond_true]
      obtain ⟨rk, hrk, hrkl⟩ := hgk m2 hq3.dec
      obtain ⟨m4, fl4, e4, hri4, hst4, hg4⟩ := go1_ok (fl := fl2) g (by omega) hq2 hrk (.inl ⟨eq, q, rfl, hn0⟩ : Ed l sizes k q n)
      rw [e4, call_some]
      refine hnx2 _ ⟨by omega, hr5, hri4, hq3.trans hst4, fun a ha c hc hne => ?_⟩
      by_cases ea : a = q
      ·subst ea
       rw [hn0] at hc
       cases hc
       obtain ⟨x, hx, hxl⟩ := hg4
       exact ⟨x, hx, Le_trans hxl (ex_mono _ _ hrkl)⟩
      ·exact hst4.dec _ _ (hq4 a (by omega) c hc hne)
   ·have := ((iSort_perm _).mem_iff).1 hk
    have := mem_keys.1 this
    cases e : alook m k with
    | none => rw [e] at this; cases this
    | some r => exact ⟨r, rfl⟩
   ·exact ((iSort_perm _).mem_iff).2 (mem_keys.2 (by rw [hk]; rfl))
 ·simp only [aset, alook] at e
  by_cases hv : s = v
  ·subst hv
   rw [decide_eq_true rfl, cond_true] at e
   cases e
   exact ⟨Wk.nil, by simp⟩
  ·rw [decide_eq_false hv, cond_false] at e; cases e
 ·cases hw with
  | nil => exact ⟨_, by simp [aset, alook]; rfl, Le_refl _⟩
  | snoc h4 h5 => simp [ex] at hl
variable {l : List api_Way} {sizes : List Int} {s : Int}
abbrev RZ : delta_route := delta_route.mk 0 [] false false
abbrev rAt (o : List delta_route) (i : Nat) : delta_route := o.getD i RZ
structure Imp1 (l : List api_Way) (sizes : List Int) (s : Int) (M : Nat) (v : Int) (x x' : delta_route) : Prop where
 dn : x'.done = x.done
 keep : x.done = true → x' = x
 any : x.any = true → x'.any = true ∧ Le (drt x') (drt x)
 wk : x' = x ∨ x'.any = true ∧ Wk (Ed l sizes) s v (drt x') ∧ x'.list.length ≤ M
theorem Imp1.refl (M : Nat) (v : Int) (x : delta_route) : Imp1 l sizes s M v x x := ⟨rfl, fun _ => rfl, fun h => ⟨h, Le_refl _⟩, .inl rfl⟩
theorem Imp1.trans {M : Nat} {v : Int} {x y z : delta_route} (h : Imp1 l sizes s M v x y) (h' : Imp1 l sizes s M v y z) : Imp1 l sizes s M v x z :=
 ⟨h'.dn.trans h.dn, fun hd => (h'.keep (h.dn.trans hd)).trans (h.keep hd), fun ha => ⟨(h'.any (h.any ha).1).1, Le_trans (h'.any (h.any ha).1).2 (h.any ha).2⟩, by
  rcases h'.wk with e | e
  ·rw [e]; exact h.wk
  ·exact .inr e⟩
structure Imp (l : List api_Way) (sizes : List Int) (s : Int) (M : Nat) (o o' : List delta_route) : Prop where
 len : o'.length = o.length
 at_ : ∀ i : Nat, i < o.length → Imp1 l sizes s M i (rAt o i) (rAt o' i)
theorem Imp.refl (M : Nat) (o : List delta_route) : Imp l sizes s M o o := ⟨rfl, fun i _ => Imp1.refl M i _⟩
theorem Imp.trans {M : Nat} {a b c : List delta_route} (h : Imp l sizes s M a b) (h' : Imp l sizes s M b c) : Imp l sizes s M a c :=
 ⟨h'.len.trans h.len, fun i hi => (h.at_ i hi).trans (h'.at_ i (by have := h.len; omega))⟩
def Has (o : List delta_route) (v : Int) (b : Rt) : Prop := (rAt o v.toNat).any = true ∧ Le (drt (rAt o v.toNat)) b
theorem Imp.has {M : Nat} {o o' : List delta_route} (h : Imp l sizes s M o o') {v : Int} {b : Rt} (h0 : 0 ≤ v) (h1 : v < o.length) (hh : Has o v b) : Has o' v b := by
 have := (h.at_ v.toNat (by omega)).any
 exact ⟨(this hh.1).1, Le_trans (this hh.1).2 hh.2⟩
def Dn (l : List api_Way) (sizes : List Int) (s : Int) (o : List delta_route) : Prop := ∀ i : Nat, i < o.length → (rAt o i).done = true → (rAt o i).any = true ∧ Opt (Ed l sizes) s i (drt (rAt o i))
theorem Imp.dnO {M : Nat} {o o' : List delta_route} (h : Imp l sizes s M o o') (hd : Dn l sizes s o) : Dn l sizes s o' := fun i hi hdn => by
 have hi' : i < o.length := by have := h.len; omega
 have h1 := h.at_ i hi'
 have h2 := h1.dn ▸ hdn
 rw [h1.keep h2]
 exact hd i hi' h2
theorem better_ok {v : Int} {r : delta_route} {o : List delta_route} (h0 : 0 ≤ v) (h1 : v < o.length) :
  ∃ b : Bool, delta_Best_1_i1 v r o = some (bif b then List.set o v.toNat r else o) ∧ (b = true → (rAt o v.toNat).any = true → Lt (drt r) (drt (rAt o v.toNat))) ∧ (b = false → (rAt o v.toNat).any = true ∧ Le (drt (rAt o v.toNat)) (drt r)) := by
 unfold delta_Best_1_i1
 rw [chk_true ⟨h0, h1⟩, chk_true (fun _ => ⟨h0, h1⟩)]
 cases ha : (rAt o v.toNat).any with
 | false =>
  simp only [Bool.not_false, Bool.not_true, callG_false, Bool.true_or, cond_true]
  rw [chk_true ⟨h0, h1⟩]
  exact ⟨true, rfl, fun _ h => (by cases h), fun h => by cases h⟩
 | true =>
  simp only [Bool.not_false, Bool.not_true, callG_true, Bool.false_or]
  obtain ⟨c, hc, hlt⟩ := cmpR r (delta_route.mk ((o.getD v.toNat (delta_route.mk 0 [] false false)).cost) ((o.getD v.toNat (delta_route.mk 0 [] false false)).list) ((o.getD v.toNat (delta_route.mk 0 [] false false)).done) true)
  rw [hc, call_some, chk_true ⟨h0, h1⟩]
  refine ⟨decide (c < 0), by cases decide (c < 0) <;> rfl, fun h _ => hlt.1 (of_decide_eq_true h), fun h => ⟨trivial, fun h' => ?_⟩⟩
  exact of_decide_eq_false h (hlt.2 h')
theorem rAt_set (o : List delta_route) (k : Nat) (x : delta_route) (h1 : k < o.length) (i : Nat) : rAt (o.set k x) i = if i = k then x else rAt o i := by
 unfold rAt
 rw [getD_set _ _ _ _ _ (by omega)]
 by_cases e : i = k
 ·rw [if_pos e, if_pos (by omega)]
 ·rw [if_neg e, if_neg (by omega)]
theorem step_ok (g : Good l sizes) {M : Nat} {o : List delta_route} {k v c : Int} {r : Rt} {d a : Bool} (hM : M ≤ 100000) (hl : o.length = sizes.length) (hdn : Dn l sizes s o) (hr : Wk (Ed l sizes) s k r) (hrl : r.2.length + 1 ≤ M) (h0 : 0 ≤ v) (h1 : v < sizes.length) (he : v ≠ k → Ed l sizes k v c) :
  ∃ o', delta_Best_2_1_i1 v c k o r.1 r.2 d a = some o' ∧ Imp l sizes s M o o' ∧ (v ≠ k → Has o' v (ex r v c)) := by
 unfold delta_Best_2_1_i1
 rw [chk_true (fun _ => ⟨h0, by omega⟩)]
 by_cases hk : v = k
 ·rw [decide_eq_true hk, Bool.not_true, Bool.false_and, cond_false]
  exact ⟨o, rfl, Imp.refl _ _, fun h => (h hk).elim⟩
 have hw : Wk (Ed l sizes) s v (ex r v c) := Wk.snoc hr (he hk)
 rw [decide_eq_false hk, Bool.not_false, Bool.true_and]
 cases hd : (rAt o v.toNat).done with
 | true =>
  have hd' : (o.getD v.toNat (delta_route.mk 0 [] false false)).done = true := hd
  simp only [Bool.not_true, cond_false]
  have := hdn v.toNat (by omega) hd
  rw [show ((v.toNat : Nat) : Int) = v by omega] at this
  exact ⟨o, rfl, Imp.refl _ _, fun _ => ⟨this.1, this.2.2 _ hw⟩⟩
 | false =>
  have hd' : (o.getD v.toNat (delta_route.mk 0 [] false false)).done = false := hd
  simp only [Bool.not_false, cond_true]
  have hb := g.walk hw
  simp only [ex, List.length_append, List.length_cons, List.length_nil] at hb
  rw [chk_true ⟨by omega, by omega⟩, List.take_length, chk_true ⟨by simp only [List.length_append, List.length_cons, List.length_nil]; omega, by simp⟩, wrapS (by omega) (by omega)]
  obtain ⟨b, hb1, hb2, hb3⟩ := better_ok (v := v) (r := delta_route.mk (r.1 + c) (r.2 ++ [v]) false true) (o := o) h0 (by omega)
  rw [hb1, call_some]
  have hv : v.toNat < o.length := by omega
  cases b with
  | false =>
   obtain ⟨h2, h3⟩ := hb3 rfl
   exact ⟨o, rfl, Imp.refl _ _, fun _ => ⟨h2, h3⟩⟩
  | true =>
   refine ⟨_, rfl, ⟨by simp, fun i hi => ?_⟩, fun _ => ?_⟩
   ·rw [cond_true, rAt_set _ _ _ hv]
    split
    ·rename_i e
     subst e
     refine ⟨hd.symm, fun h => (by rw [hd] at h; cases h), fun h => ⟨rfl, Le_of_Lt (hb2 rfl h)⟩, .inr ⟨rfl, ?_, by simp only [List.length_append, List.length_cons, List.length_nil]; omega⟩⟩
     rw [show ((v.toNat : Nat) : Int) = v by omega]
     exact hw
    ·exact Imp1.refl _ _ _
   ·unfold Has
    rw [cond_true, rAt_set _ _ _ hv, if_pos rfl]
    exact ⟨rfl, Le_refl _⟩
theorem spread_ok (g : Good l sizes) {M : Nat} {o : List delta_route} {k : Int} {r : delta_route} (hM : M ≤ 100000) (hl : o.length = sizes.length) (hdn : Dn l sizes s o) (hr : Wk (Ed l sizes) s k (drt r)) (hrl : r.list.length + 1 ≤ M) :
  Ends (delta_Best_2_i1 k r o sizes l) fun o' => Imp l sizes s M o o' ∧ ∀ v c, Ed l sizes k v c → Has o' v (ex (drt r) v c) := by
 unfold delta_Best_2_i1
 rw [jp_eq]
 refine forL_ex (fun q rest o' => q + rest.length = sizes.length ∧ (∀ i : Nat, rest[i]? = sizes[q + i]?) ∧ Imp l sizes s M o o' ∧ ∀ a : Nat, a < q → ∀ c, sizes[a]? = some c → (a : Int) ≠ k → Has o' a (ex (drt r) a c)) (fun q o1 hq => ?_) (fun q n rest o1 nx hq hnx => ?_) _ _ _ ⟨by omega, fun i => by rw [Nat.zero_add], Imp.refl _ _, fun a ha => by omega⟩
 ·obtain ⟨hq1, _, hq3, hq4⟩ := hq
  simp only [List.length_nil, Nat.add_zero] at hq1
  dsimp only
  refine forL_ex (fun p rest o' => (∀ w ∈ rest, w ∈ l) ∧ Imp l sizes s M o1 o' ∧ ∀ w ∈ l, w.From = k → w ∈ rest ∨ Has o' w.To (ex (drt r) w.To w.Cost)) (fun p o2 hp => ?_) (fun p w rest o2 nx hp hnx => ?_) _ _ _ ⟨fun w hw => hw, Imp.refl _ _, fun w hw _ => .inl hw⟩
  ·obtain ⟨_, hp3, hp4⟩ := hp
   refine ⟨_, rfl, hq3.trans hp3, fun v c he => ?_⟩
   have hln := hq3.len
   rcases he with ⟨hne, a, rfl, ha⟩ | ⟨w, hw, e1, rfl, rfl⟩
   ·have := (List.getElem?_eq_some_iff.1 ha).1
    exact hp3.has (by omega) (by omega) (hq4 a (by omega) c ha hne)
   ·rcases hp4 w hw e1 with h | h
    ·cases h
    ·exact h
  ·obtain ⟨hp5, hp3, hp4⟩ := hp
   have hwl := hp5 w (List.mem_cons_self ..)
   have hwy := g.wy w hwl
   have hln := (hq3.trans hp3).len
   by_cases ew : w.From = k
   ·rw [decide_eq_true ew, cond_true]
    obtain ⟨o3, e3, hi3, hh3⟩ := step_ok (d := r.done) (a := r.any) g hM (o := o2) (by omega) ((hq3.trans hp3).dnO hdn) hr hrl (v := w.To) (c := w.Cost) (by omega) (by omega) (fun _ => .inr ⟨w, hwl, ew, rfl, rfl⟩)
    simp only [drt] at e3
    rw [e3, call_some]
    refine hnx _ ⟨fun w' hw' => hp5 w' (List.mem_cons_of_mem _ hw'), hp3.trans hi3, fun w' hw' ew' => ?_⟩
    by_cases eq : w' = w
    ·subst eq
     exact .inr (hh3 (by omega))
    ·rcases hp4 w' hw' ew' with h | h
     ·rcases List.mem_cons.1 h with h | h
      ·exact (eq h).elim
      ·exact .inl h
     ·have := g.wy w' hw'
      exact .inr (hi3.has (by omega) (by omega) h)
   ·rw [decide_eq_false ew, cond_false]
    refine hnx _ ⟨fun w' hw' => hp5 w' (List.mem_cons_of_mem _ hw'), hp3, fun w' hw' ew' => ?_⟩
    rcases hp4 w' hw' ew' with h | h
    ·rcases List.mem_cons.1 h with h | h
     ·subst h; exact (ew ew').elim
     ·exact .inl h
    ·exact .inr h
 ·obtain ⟨hq1, hq5, hq3, hq4⟩ := hq
  simp only [List.length_cons] at hq1
  have hn0 : sizes[q]? = some n := by have := hq5 0; simpa using this.symm
  have hr5 : ∀ i : Nat, rest[i]? = sizes[q + 1 + i]? := fun i => by
   have := hq5 (i + 1)
   rw [List.getElem?_cons_succ] at this
   rw [this]; congr 1; omega
  have hln := hq3.len
  obtain ⟨o3, e3, hi3, hh3⟩ := step_ok (d := r.done) (a := r.any) g hM (o := o1) (by omega) (hq3.dnO hdn) hr hrl (v := (q : Int)) (c := n) (by omega) (by omega) (fun h => .inl ⟨h, q, rfl, hn0⟩)
  simp only [drt] at e3
  rw [e3, call_some]
  refine hnx _ ⟨by omega, hr5, hq3.trans hi3, fun a ha c hc hne => ?_⟩
  by_cases ea : a = q
  ·subst ea
   rw [hn0] at hc
   cases hc
   exact hh3 hne
  ·exact hi3.has (by omega) (by omega) (hq4 a (by omega) c hc hne)
variable {l : List api_Way} {sizes : List Int} {s : Int}
structure DI (l : List api_Way) (sizes : List Int) (s : Int) (M : Nat) (o : List delta_route) : Prop where
 len : o.length = sizes.length
 dn : Dn l sizes s o
 wk : ∀ i : Nat, i < o.length → (rAt o i).any = true → Wk (Ed l sizes) s i (drt (rAt o i)) ∧ (rAt o i).list.length ≤ M
 cov : ∀ i : Nat, i < o.length → (rAt o i).done = true → ∀ v c, Ed l sizes i v c → Has o v (ex (drt (rAt o i)) v c)
 src : if s < 0 then ∀ v c, Ed l sizes s v c → Has o v (ex (0, []) v c) else Has o s (0, [])
def Fr (o : List delta_route) (r : Rt) : Prop := ∃ i : Nat, i < o.length ∧ (rAt o i).any = true ∧ (rAt o i).done = false ∧ Le (drt (rAt o i)) r
theorem DI.front (g : Good l sizes) {M : Nat} {o : List delta_route} (h : DI l sizes s M o) (h3 : s < sizes.length) {v : Int} {r : Rt} (hw : Wk (Ed l sizes) s v r) :
  (v = s ∧ s < 0 ∧ Le (0, []) r) ∨ (0 ≤ v ∧ v < o.length ∧ (rAt o v.toNat).done = true ∧ Le (drt (rAt o v.toNat)) r) ∨ Fr o r := by
 have hl := h.len
 have hHas : ∀ (v : Int) (b : Rt), 0 ≤ v → v < o.length → Has o v b → (0 ≤ v ∧ v < o.length ∧ (rAt o v.toNat).done = true ∧ Le (drt (rAt o v.toNat)) b) ∨ Fr o b := fun v b h0 h1 hh => by
  cases hd : (rAt o v.toNat).done with
  | true => exact .inl ⟨h0, h1, rfl, hh.2⟩
  | false => exact .inr ⟨v.toNat, by omega, hh.1, hd, hh.2⟩
 induction hw with
 | nil =>
  have := h.src
  by_cases hs : s < 0
  ·exact .inl ⟨rfl, hs, Le_refl _⟩
  ·rw [if_neg hs] at this
   exact .inr (hHas s _ (by omega) (by omega) this)
 | @snoc u p v c hw1 he ih =>
  have hc := g.ed he
  have hst : ∀ b : Rt, Le b p → Has o v (ex b v c) → (0 ≤ v ∧ v < o.length ∧ (rAt o v.toNat).done = true ∧ Le (drt (rAt o v.toNat)) (ex p v c)) ∨ Fr o (ex p v c) := fun b hb hh => by
   refine hHas v _ (by omega) (by omega) ⟨hh.1, Le_trans hh.2 (ex_mono _ _ hb)⟩
  rcases ih with ⟨rfl, hs, hle⟩ | ⟨h0, h1, hd, hle⟩ | ⟨i, hi, ha, hd, hle⟩
  ·have := h.src
   rw [if_pos hs] at this
   exact .inr (hst _ hle (this v c he))
  ·have := h.cov u.toNat (by omega) hd v c (by rw [show ((u.toNat : Nat) : Int) = u by omega]; exact he)
   exact .inr (hst _ hle this)
  ·exact .inr (.inr ⟨i, hi, ha, hd, Le_trans hle (Le_ex _ _ _ (by omega))⟩)
theorem rAt_get {o : List delta_route} {i : Nat} (h : i < o.length) : rAt o i = o[i] := by
 unfold rAt
 rw [List.getD_eq_getElem?_getD, List.getElem?_eq_getElem h]; rfl
theorem Imp.dones {M : Nat} {o o' : List delta_route} (h : Imp l sizes s M o o') : o'.map (·.done) = o.map (·.done) := by
 refine List.ext_getElem (by simp [h.len]) fun i h1 h2 => ?_
 simp only [List.length_map] at h1 h2
 have := (h.at_ i h2).dn
 rw [rAt_get h1, rAt_get h2] at this
 simpa using this
def todo (o : List delta_route) : Nat := (o.map (·.done)).count false
theorem todo_set {o : List delta_route} {i : Nat} {x : delta_route} (h : i < o.length) (hd : (rAt o i).done = false) (hx : x.done = true) : todo (o.set i x) + 1 = todo o := by
 unfold todo
 rw [List.map_set, List.count_set (by simpa using h)]
 have e : (o.map (·.done))[i]'(by simpa using h) = false := by
  rw [rAt_get h] at hd
  simpa using hd
 have hp : 0 < (o.map (·.done)).count false := List.count_pos_iff.2 (e ▸ List.getElem_mem _)
 rw [e, hx]
 simp
 omega
theorem Wk.ge (g : Good l sizes) {v : Int} {r : Rt} (h : Wk (Ed l sizes) s v r) : Le (0, []) r := Le_zero (g.walk h).1
theorem delta_Best_ok (g : Good l sizes) {to : Int} (hcw : delta_CheckWays l sizes = some 0) (h0 : 0 ≤ to) (h1 : to < sizes.length) (h2 : -1 ≤ s) (h3 : s < sizes.length) :
  Ends (delta_Best l sizes s to) fun z => z.2.2 = 0 ∧ Opt (Ed l sizes) s to (z.2.1, z.1) := by
 have hn := g.n
 unfold delta_Best
 rw [hcw, call_some, decide_eq_true rfl, Bool.not_true, cond_false, letv_eq, wrapS (by omega) (by omega)]
 unfold delta_outside
 rw [decide_eq_false (by omega), decide_eq_false (by omega), decide_eq_false (by omega), decide_eq_false (by omega)]
 simp only [Bool.or_false, call_some, Bool.not_false, callG_true, cond_false]
 rw [chk_true (by omega), letv_eq, jp_eq]
 have hrep : ∀ i, rAt (List.replicate sizes.length RZ) i = RZ := fun i => by
  unfold rAt
  simp only [List.getD_eq_getElem?_getD, List.getElem?_replicate]
  split <;> rfl
 have hdn0 : Dn l sizes s (List.replicate sizes.length RZ) := fun i hi hd => by rw [hrep] at hd; cases hd
 have htodo0 : todo (List.replicate sizes.length RZ) = sizes.length := by
  unfold todo
  rw [List.map_replicate]
  exact List.count_replicate_self
 have main : ∀ o, DI l sizes s 1 o → todo o = sizes.length → Ends (loopN Fuel (fun o2_160 nx_302 k_301 => jp (S := Int) (fun best_363 =>
    bif ((decide (best_363 < 0)) || (decide (best_363 = to))) then
     chk (0 ≤ to ∧ to < (o2_160.length : Int)) <|
     letv ((o2_160.getD to.toNat (delta_route.mk 0 [] false false)).list) fun v_366 =>
     chk (0 ≤ to ∧ to < (o2_160.length : Int)) <|
     letv ((o2_160.getD to.toNat (delta_route.mk 0 [] false false)).cost) fun v_369 =>
     some (v_366, v_369, 0)
    else
    chk (0 ≤ best_363 ∧ best_363 < (o2_160.length : Int)) <|
    letv (List.set o2_160 best_363.toNat (delta_route.mk ((o2_160.getD best_363.toNat (delta_route.mk 0 [] false false)).cost) ((o2_160.getD best_363.toNat (delta_route.mk 0 [] false false)).list) true ((o2_160.getD best_363.toNat (delta_route.mk 0 [] false false)).any))) fun v_373 =>
    chk (0 ≤ best_363 ∧ best_363 < (v_373.length : Int)) <|
    letv ((v_373.getD best_363.toNat (delta_route.mk 0 [] false false)).cost) fun v_377 =>
    letv ((v_373.getD best_363.toNat (delta_route.mk 0 [] false false)).list) fun v_379 =>
    call (delta_Best_2_i1 best_363 (delta_route.mk v_377 v_379 ((v_373.getD best_363.toNat (delta_route.mk 0 [] false false)).done) ((v_373.getD best_363.toNat (delta_route.mk 0 [] false false)).any)) v_373 sizes l) fun r_381 =>
    nx_302 r_381) fun k_364 =>
   forC o2_160.length 0 (fun i_414 best_383 nx_413 k_412 =>
    letv ((o2_160.getD i_414 (delta_route.mk 0 [] false false)).cost) fun v_417 =>
    letv ((o2_160.getD i_414 (delta_route.mk 0 [] false false)).list) fun v_419 =>
    chk (((((o2_160.getD i_414 (delta_route.mk 0 [] false false)).any) && (!((o2_160.getD i_414 (delta_route.mk 0 [] false false)).done))) && (!(decide (best_383 < 0)))) = true → (0 ≤ best_383 ∧ best_383 < (o2_160.length : Int))) <|
    letv ((o2_160.getD best_383.toNat (delta_route.mk 0 [] false false)).cost) fun v_423 =>
    letv ((o2_160.getD best_383.toNat (delta_route.mk 0 [] false false)).list) fun v_425 =>
    callG ((((o2_160.getD i_414 (delta_route.mk 0 [] false false)).any) && (!((o2_160.getD i_414 (delta_route.mk 0 [] false false)).done))) && (!(decide (best_383 < 0)))) (delta_compareRoutes (delta_route.mk v_417 v_419 ((o2_160.getD i_414 (delta_route.mk 0 [] false false)).done) ((o2_160.getD i_414 (delta_route.mk 0 [] false false)).any)) (delta_route.mk v_423 v_425 ((o2_160.getD best_383.toNat (delta_route.mk 0 [] false false)).done) ((o2_160.getD best_383.toNat (delta_route.mk 0 [] false false)).any))) 0 fun r_427 =>
    bif ((((o2_160.getD i_414 (delta_route.mk 0 [] false false)).any) && (!((o2_160.getD i_414 (delta_route.mk 0 [] false false)).done))) && ((decide (best_383 < 0)) || (decide (r_427 < 0)))) then
     nx_413 (i_414 : Int)
    else
    nx_413 best_383) (-1) (fun best_383 =>
    k_364 best_383)) o (fun o2_160 =>
   none)) fun z : List Int × Int × Int => z.2.2 = 0 ∧ Opt (Ed l sizes) s to (z.2.1, z.1) := by
  intro o hdi htd
  refine loopN_exJ (fun j o => j ≤ 20 ∧ todo o + 1 ≤ j ∧ 10 ≤ 20 - j + 10 ∧ DI l sizes s (21 - j) o) ?_ 20 o ⟨by omega, by omega, by omega, by simpa using hdi⟩ (by omega)
  rintro j o nx ⟨hj, htd, _, hdi⟩ hnx
  have hl := hdi.len
  have hend : (∀ r, Wk (Ed l sizes) s to r → (0 ≤ to ∧ to < o.length ∧ (rAt o to.toNat).done = true ∧ Le (drt (rAt o to.toNat)) r) ∨ ((rAt o to.toNat).any = true ∧ Le (drt (rAt o to.toNat)) r)) →
    Ends (chk (0 ≤ to ∧ to < (o.length : Int)) <| letv ((o.getD to.toNat (delta_route.mk 0 [] false false)).list) fun v_366 => chk (0 ≤ to ∧ to < (o.length : Int)) <| letv ((o.getD to.toNat (delta_route.mk 0 [] false false)).cost) fun v_369 => some (v_366, v_369, 0)) fun z : List Int × Int × Int => z.2.2 = 0 ∧ Opt (Ed l sizes) s to (z.2.1, z.1) := by
   intro hall
   rw [chk_true ⟨h0, by omega⟩, letv_eq, chk_true ⟨h0, by omega⟩, letv_eq]
   have hle : ∀ r, Wk (Ed l sizes) s to r → Le (drt (rAt o to.toNat)) r := fun r hr => by
    rcases hall r hr with h | h
    ·exact h.2.2.2
    ·exact h.2
   have hany : (rAt o to.toNat).any = true := by
    obtain ⟨r, hr⟩ := g.reach (s := s) h0 h1
    rcases hall r hr with h | h
    ·exact (hdi.dn to.toNat (by omega) h.2.2.1).1
    ·exact h.1
   have hw := (hdi.wk to.toNat (by omega) hany).1
   rw [show ((to.toNat : Nat) : Int) = to by omega] at hw
   exact ⟨_, rfl, rfl, hw, hle⟩
  rw [jp_eq]
  refine forC_ex o.length (fun i (best : Int) => (best = -1 ∧ ∀ a : Nat, a < i → (rAt o a).any = true → (rAt o a).done = true) ∨ ∃ b : Nat, best = b ∧ b < i ∧ (rAt o b).any = true ∧ (rAt o b).done = false ∧ ∀ a : Nat, a < i → (rAt o a).any = true → (rAt o a).done = false → Le (drt (rAt o b)) (drt (rAt o a))) (fun best hb => ?_) (fun i best nx1 hi hb hnx1 => ?_) _ _ _ (by omega) (.inl ⟨rfl, fun a ha => by omega⟩)
  ·rcases hb with ⟨rfl, hb⟩ | ⟨b, rfl, hbl, hba, hbd, hbm⟩
   ·dsimp only
    rw [decide_eq_true (by omega), Bool.true_or, cond_true]
    refine hend fun r hr => ?_
    rcases hdi.front g h3 hr with ⟨rfl, hs, _⟩ | h | ⟨i, hi, ha, hd, _⟩
    ·omega
    ·exact .inl h
    ·rw [hb i hi ha] at hd; cases hd
   ·dsimp only
    by_cases hto : (b : Int) = to
    ·rw [decide_eq_true hto, Bool.or_true, cond_true]
     have hbt : b = to.toNat := by omega
     refine hend fun r hr => ?_
     rcases hdi.front g h3 hr with ⟨rfl, hs, _⟩ | h | ⟨i, hi, ha, hd, hle⟩
     ·omega
     ·exact .inl h
     ·exact .inr ⟨hbt ▸ hba, hbt ▸ Le_trans (hbm i hi ha hd) hle⟩
    ·rw [decide_eq_false (by omega), decide_eq_false hto, Bool.or_false, cond_false, chk_true ⟨by omega, by omega⟩, letv_eq]
     simp only [Int.toNat_natCast]
     rw [chk_true ⟨by omega, by simp only [List.length_set]; omega⟩, letv_eq, letv_eq]
     have hopt : Opt (Ed l sizes) s b (drt (rAt o b)) := ⟨(hdi.wk b hbl hba).1, fun r hr => by
      rcases hdi.front g h3 hr with ⟨e, hs, _⟩ | ⟨_, _, h, _⟩ | ⟨i, hi, ha, hd, hle⟩
      ·omega
      ·simp only [Int.toNat_natCast] at h
       rw [hbd] at h; cases h
      ·exact Le_trans (hbm i hi ha hd) hle⟩
     generalize ho1 : List.set o b (delta_route.mk ((o.getD b (delta_route.mk 0 [] false false)).cost) ((o.getD b (delta_route.mk 0 [] false false)).list) true ((o.getD b (delta_route.mk 0 [] false false)).any)) = o1
     have hr1 : ∀ i, rAt o1 i = if i = b then delta_route.mk (rAt o b).cost (rAt o b).list true (rAt o b).any else rAt o i := fun i => by
      rw [← ho1, rAt_set _ _ _ hbl]
     have hl1 : o1.length = o.length := by rw [← ho1, List.length_set]
     have hdr : ∀ i, drt (rAt o1 i) = drt (rAt o i) := fun i => by
      rw [hr1]; split
      ·rename_i e; subst e; rfl
      ·rfl
     have hany : ∀ i, (rAt o1 i).any = (rAt o i).any := fun i => by
      rw [hr1]; split
      ·rename_i e; subst e; rfl
      ·rfl
     have hlst : ∀ i, (rAt o1 i).list = (rAt o i).list := fun i => congrArg Prod.snd (hdr i)
     have hdone : ∀ i, (rAt o1 i).done = true → i = b ∨ (rAt o i).done = true := fun i h => by
      rw [hr1] at h; split at h
      ·rename_i e; exact .inl e
      ·exact .inr h
     have hhas : ∀ (v : Int) (b : Rt), Has o v b → Has o1 v b := fun v b h => by unfold Has; rw [hany, hdr]; exact h
     have hdn1 : Dn l sizes s o1 := fun i hi hd => by
      rw [hany, hdr]
      rcases hdone i hd with rfl | h
      ·exact ⟨hba, hopt⟩
      ·exact hdi.dn i (by omega) h
     have hrb : delta_route.mk ((o1.getD b (delta_route.mk 0 [] false false)).cost) ((o1.getD b (delta_route.mk 0 [] false false)).list) ((o1.getD b (delta_route.mk 0 [] false false)).done) ((o1.getD b (delta_route.mk 0 [] false false)).any) = rAt o1 b := rfl
     rw [hrb]
     have hwb := hdi.wk b hbl hba
     refine Ends.call (spread_ok (s := s) (M := 22 - j) g (by omega) (by omega) hdn1 (k := (b : Int)) (r := rAt o1 b) (by rw [hdr]; exact hwb.1) (by rw [hlst]; omega)) fun o2 ho2 => ?_
     obtain ⟨him, hcv⟩ := ho2
     have htd1 := todo_set (x := delta_route.mk ((o.getD b (delta_route.mk 0 [] false false)).cost) ((o.getD b (delta_route.mk 0 [] false false)).list) true ((o.getD b (delta_route.mk 0 [] false false)).any)) hbl hbd rfl
     rw [ho1] at htd1
     have htd2 : todo o2 = todo o1 := by unfold todo; rw [him.dones]
     have hl2 := him.len
     refine hnx (j - 1) _ (by omega) ⟨by omega, by omega, by omega, by omega, him.dnO hdn1, fun i hi ha => ?_, fun i hi hd v c he => ?_, ?_⟩
     ·have h4 := (him.at_ i (by omega)).wk
      rcases h4 with e | h4
      ·rw [e] at ha ⊢
       rw [hany] at ha
       rw [hdr, hlst]
       have := hdi.wk i (by omega) ha
       exact ⟨this.1, by omega⟩
      ·exact ⟨h4.2.1, by omega⟩
     ·have h4 := him.at_ i (by omega)
      have hd1 : (rAt o1 i).done = true := h4.dn ▸ hd
      rw [h4.keep hd1]
      have hc := g.ed he
      rcases hdone i hd1 with rfl | h
      ·exact hcv v c he
      ·refine him.has (by omega) (by omega) (hhas _ _ ?_)
       rw [hdr]
       exact hdi.cov i (by omega) h v c he
     ·have := hdi.src
      by_cases hs : s < 0
      ·rw [if_pos hs] at this ⊢
       intro v c he
       have hc := g.ed he
       exact him.has (by omega) (by omega) (hhas _ _ (this v c he))
      ·rw [if_neg hs] at this ⊢
       exact him.has (by omega) (by omega) (hhas _ _ this)
  ·rw [letv_eq, letv_eq]
   have hcond : ((o.getD i (delta_route.mk 0 [] false false)).any && !(o.getD i (delta_route.mk 0 [] false false)).done) = ((rAt o i).any && !(rAt o i).done) := rfl
   rw [hcond]
   cases hA : ((rAt o i).any && !(rAt o i).done) with
   | false =>
    have hA' : (rAt o i).any = true → (rAt o i).done = true := fun h => by
     rw [h] at hA
     cases hd : (rAt o i).done with
     | true => rfl
     | false => rw [hd] at hA; cases hA
    rw [Bool.false_and, chk_true (by intro h; cases h), letv_eq, letv_eq, callG_false, Bool.false_and, cond_false]
    refine hnx1 _ ?_
    rcases hb with ⟨rfl, hb⟩ | ⟨b, rfl, hbl, hba, hbd, hbm⟩
    ·refine .inl ⟨rfl, fun a ha => ?_⟩
     by_cases e : a = i
     ·subst e; exact hA'
     ·exact hb a (by omega)
    ·refine .inr ⟨b, rfl, by omega, hba, hbd, fun a ha h1 h2 => ?_⟩
     by_cases e : a = i
     ·subst e; rw [hA' h1] at h2; cases h2
     ·exact hbm a (by omega) h1 h2
   | true =>
    simp only [Bool.and_eq_true, Bool.not_eq_true'] at hA
    rcases hb with ⟨rfl, hb⟩ | ⟨b, rfl, hbl, hba, hbd, hbm⟩
    ·rw [decide_eq_true (by omega), Bool.not_true, Bool.true_and, chk_true (by intro h; cases h), letv_eq, letv_eq, callG_false, Bool.true_or, Bool.true_and, cond_true]
     refine hnx1 _ (.inr ⟨i, rfl, by omega, hA.1, hA.2, fun a ha h1 h2 => ?_⟩)
     by_cases e : a = i
     ·subst e; exact Le_refl _
     ·rw [hb a (by omega) h1] at h2; cases h2
    ·rw [decide_eq_false (by omega), Bool.not_false, Bool.true_and, chk_true (fun _ => ⟨by omega, by omega⟩), letv_eq, letv_eq, callG_true]
     simp only [Int.toNat_natCast, Bool.false_or, Bool.true_and]
     obtain ⟨c, hc, hlt⟩ := cmpR (rAt o i) (rAt o b)
     have hc' : delta_compareRoutes (delta_route.mk ((o.getD i (delta_route.mk 0 [] false false)).cost) ((o.getD i (delta_route.mk 0 [] false false)).list) ((o.getD i (delta_route.mk 0 [] false false)).done) ((o.getD i (delta_route.mk 0 [] false false)).any)) (delta_route.mk ((o.getD b (delta_route.mk 0 [] false false)).cost) ((o.getD b (delta_route.mk 0 [] false false)).list) ((o.getD b (delta_route.mk 0 [] false false)).done) ((o.getD b (delta_route.mk 0 [] false false)).any)) = some c := hc
     rw [hc', call_some]
     by_cases hcl : c < 0
     ·rw [decide_eq_true hcl, cond_true]
      have hl2 := hlt.1 hcl
      refine hnx1 _ (.inr ⟨i, rfl, by omega, hA.1, hA.2, fun a ha h1 h2 => ?_⟩)
      by_cases e : a = i
      ·subst e; exact Le_refl _
      ·exact Le_trans (Le_of_Lt hl2) (hbm a (by omega) h1 h2)
     ·rw [decide_eq_false hcl, cond_false]
      refine hnx1 _ (.inr ⟨b, rfl, by omega, hba, hbd, fun a ha h1 h2 => ?_⟩)
      by_cases e : a = i
      ·subst e; exact fun h => hcl (hlt.2 h)
      ·exact hbm a (by omega) h1 h2
 by_cases hs : s < 0
 ·obtain rfl : s = -1 := by omega
  rw [decide_eq_true hs, cond_true]
  refine Ends.call (spread_ok (s := -1) (M := 1) (k := -1) (r := RZ) g (by omega) (by simp) hdn0 Wk.nil (by simp)) fun o1 ho1 => ?_
  obtain ⟨him, hcv⟩ := ho1
  have hl1 := him.len
  simp only [List.length_replicate] at hl1
  refine main o1 ⟨hl1, him.dnO hdn0, fun i hi ha => ?_, fun i hi hd => ?_, ?_⟩ (by unfold todo; rw [him.dones]; exact htodo0)
  ·rcases (him.at_ i (by simp; omega)).wk with e | e
   ·rw [e, hrep] at ha; cases ha
   ·exact e.2
  ·have := (him.at_ i (by simp; omega)).dn
   rw [hrep] at this
   rw [this] at hd; cases hd
  ·rw [if_pos hs]; exact hcv
 ·rw [decide_eq_false hs, cond_false, chk_true (by simp only [List.length_replicate]; omega), letv_eq]
  have hlr : s.toNat < (List.replicate sizes.length RZ).length := by simp; omega
  have hr1 : ∀ i, rAt ((List.replicate sizes.length RZ).set s.toNat (delta_route.mk (((List.replicate sizes.length RZ).getD s.toNat (delta_route.mk 0 [] false false)).cost) (((List.replicate sizes.length RZ).getD s.toNat (delta_route.mk 0 [] false false)).list) (((List.replicate sizes.length RZ).getD s.toNat (delta_route.mk 0 [] false false)).done) true)) i = if i = s.toNat then delta_route.mk 0 [] false true else RZ := fun i => by
   rw [rAt_set _ _ _ hlr]
   have := hrep s.toNat
   unfold rAt at this
   rw [this, hrep]
  refine main _ ⟨by simp, fun i hi hd => ?_, fun i hi ha => ?_, fun i hi hd => ?_, ?_⟩ ?_
  ·rw [hr1] at hd
   split at hd <;> cases hd
  ·rw [hr1] at ha ⊢
   split at ha
   ·rename_i e
    rw [if_pos e]
    rw [show ((i : Nat) : Int) = s by omega]
    exact ⟨Wk.nil, by simp⟩
   ·cases ha
  ·rw [hr1] at hd
   split at hd <;> cases hd
  ·rw [if_neg hs]
   unfold Has
   rw [hr1, if_pos rfl]
   exact ⟨rfl, Le_refl _⟩
  ·unfold todo
   have hm : ∀ x : delta_route, x.done = false → ((List.replicate sizes.length RZ).set s.toNat x).map (·.done) = (List.replicate sizes.length RZ).map (·.done) := fun x hx => by
    refine List.ext_getElem (by simp) fun i h1 h2 => ?_
    simp only [List.getElem_map, List.getElem_set, List.getElem_replicate]
    split
    ·exact hx
    ·rfl
   rw [hm _ (by have := hrep s.toNat; unfold rAt at this; simp only [this])]
   exact htodo0
def firstE {α Z : Type} (er : α → Int) (z : Int → Option Z) : List α → Option Z → Option Z
 | [], m => m
 | x :: l, m => bif !decide (er x = 0) then z (er x) else firstE er z l m
theorem forL_err {α Z : Type} {f : Nat → α → Unit → (Unit → Option Z) → (Unit → Option Z) → Option Z} {k : Unit → Option Z} (er : α → Int) (z : Int → Option Z) (P : α → Prop)
  (hf : ∀ i x s nx k, P x → f i x s nx k = bif !decide (er x = 0) then z (er x) else nx ()) : ∀ (l : List α) (i : Nat), (∀ x ∈ l, P x) → forL l i f () k = firstE er z l (k ())
 | [], _, _ => rfl
 | x :: l, i, h => by
  unfold forL firstE
  rw [hf _ _ _ _ _ (h x (List.mem_cons_self ..)), forL_err er z P hf l (i + 1) fun y hy => h y (List.mem_cons_of_mem _ hy)]
theorem firstE_ok {α Z : Type} {er : α → Int} {z : Int → Option Z} {c : Z} {m : Option Z} (hz : ∀ e, e ≠ 0 → z e ≠ some c) : ∀ (l : List α), firstE er z l m = some c → (∀ x ∈ l, er x = 0) ∧ m = some c
 | [], h => ⟨fun _ h => (by cases h), h⟩
 | x :: l, h => by
  unfold firstE at h
  by_cases e : er x = 0
  ·rw [decide_eq_true e, Bool.not_true, cond_false] at h
   obtain ⟨h1, h2⟩ := firstE_ok hz l h
   exact ⟨fun y hy => by
    rcases List.mem_cons.1 hy with rfl | hy
    ·exact e
    ·exact h1 y hy, h2⟩
  ·rw [decide_eq_false e, Bool.not_false, cond_true] at h
   exact (hz _ e h).elim
theorem firstE_some {α : Type} {er : α → Int} : ∀ (l : List α) (m : Option Int), (∃ e, m = some e) → ∃ e, firstE er some l m = some e
 | [], m, h => h
 | x :: l, m, h => by
  unfold firstE
  cases !decide (er x = 0)
  ·exact firstE_some l m h
  ·exact ⟨_, rfl⟩
def sErr (c : Int) : Int := bif decide (c < 0) || decide (1000000000 < c) then 3 else 0
def wErr (n : Nat) (w : api_Way) : Int :=
 bif ((decide (w.From < 0) || decide ((n : Int) ≤ w.From)) || decide (w.To < 0)) || decide ((n : Int) ≤ w.To) then 10 else bif decide (w.From = w.To) then 2 else bif decide (w.Cost < 0) || decide (1000000000 < w.Cost) then 3 else 0
theorem landed_wm : Law_landed = some true := rfl
variable {l : List api_Way} {sizes : List Int}
theorem R_ways_eq (hm : l.length ≤ 40) (hn : sizes.length ≤ 9) : R_WaysError l sizes = firstE sErr some sizes (firstE (wErr sizes.length) some l (some 0)) := by
 unfold R_WaysError
 rw [decide_eq_false (by omega), decide_eq_false (by omega), Bool.or_false, cond_false, jp_eq]
 refine (forL_err sErr some (fun _ => True) (fun i x s nx k _ => ?_) sizes 0 fun _ _ => trivial).trans ?_
 ·unfold sErr
  cases decide (x < 0) || decide (1000000000 < x) <;> rfl
 ·dsimp only
  rw [jp_eq]
  congr 1
  refine (forL_err (wErr sizes.length) some (fun _ => True) (fun i x s nx k _ => ?_) l 0 fun _ _ => trivial).trans rfl
  unfold wErr R_when
  generalize (((decide (x.From < 0) || decide ((sizes.length : Int) ≤ x.From)) || decide (x.To < 0)) || decide ((sizes.length : Int) ≤ x.To)) = a
  generalize (decide (x.Cost < 0) || decide (1000000000 < x.Cost)) = c
  cases a <;> cases decide (x.From = x.To) <;> cases c <;> rfl
theorem D_ways_eq (hm : l.length ≤ 40) (hn : sizes.length ≤ 9) : delta_CheckWays l sizes = firstE sErr some sizes (firstE (wErr sizes.length) some l (some 0)) := by
 unfold delta_CheckWays
 rw [decide_eq_false (by omega), decide_eq_false (by omega), Bool.or_false, cond_false, jp_eq]
 refine (forL_err sErr some (fun _ => True) (fun i x s nx k _ => ?_) sizes 0 fun _ _ => trivial).trans ?_
 ·unfold sErr delta_outside
  rw [call_some]
  cases decide (x < 0) || decide (1000000000 < x) <;> rfl
 ·dsimp only
  rw [jp_eq]
  congr 1
  refine (forL_err (wErr sizes.length) some (fun _ => True) (fun i x s nx k _ => ?_) l 0 fun _ _ => trivial).trans rfl
  unfold wErr delta_outside
  rw [wrapS (by omega) (by omega)]
  have h1 : decide ((sizes.length : Int) - 1 < x.From) = decide ((sizes.length : Int) ≤ x.From) := by congr 1; simp; omega
  have h2 : decide ((sizes.length : Int) - 1 < x.To) = decide ((sizes.length : Int) ≤ x.To) := by congr 1; simp; omega
  rw [h1, h2]
  generalize decide (x.From < 0) = a
  generalize decide ((sizes.length : Int) ≤ x.From) = b
  generalize decide (x.To < 0) = c
  generalize decide ((sizes.length : Int) ≤ x.To) = d
  generalize (decide (x.Cost < 0) || decide (1000000000 < x.Cost)) = e
  cases a <;> cases b <;> cases c <;> cases d <;> cases decide (x.From = x.To) <;> cases e <;> rfl
theorem good_of (hm : l.length ≤ 40) (hn : sizes.length ≤ 9) (h : firstE sErr some sizes (firstE (wErr sizes.length) some l (some 0)) = some 0) : Good l sizes := by
 obtain ⟨h1, h2⟩ := firstE_ok (fun e he hc => he (Option.some.inj hc)) _ h
 obtain ⟨h3, _⟩ := firstE_ok (fun e he hc => he (Option.some.inj hc)) _ h2
 refine ⟨hn, hm, fun c hc => ?_, fun w hw => ?_⟩
 ·have := h1 c hc
  unfold sErr at this
  cases e : decide (c < 0) || decide (1000000000 < c)
  ·simp at e; omega
  ·rw [e] at this; cases this
 ·have := h3 w hw
  unfold wErr at this
  cases e1 : (((decide (w.From < 0) || decide ((sizes.length : Int) ≤ w.From)) || decide (w.To < 0)) || decide ((sizes.length : Int) ≤ w.To))
  ·cases e2 : decide (w.From = w.To)
   ·cases e3 : decide (w.Cost < 0) || decide (1000000000 < w.Cost)
    ·simp at e1 e2 e3; omega
    ·rw [e1, e2, e3] at this; cases this
   ·rw [e1, e2] at this; cases this
  ·rw [e1] at this; cases this
theorem eqI_same (x : List Int) : slices_Equal_int_int x x = some true := by
 unfold slices_Equal_int_int
 rw [decide_eq_true rfl, Bool.not_true, cond_false, jp_eq]
 refine forL_run (fun i r _ => r = x.drop i) (fun i r _ => some true) (fun i s hi => rfl) (fun i y r s nx hi hnx => ?_) x 0 () (by simp)
 have hl : i < x.length := by
  have := congrArg List.length hi
  simp at this; omega
 rw [idx_eq hl]
 have hd := List.drop_eq_getElem_cons hl
 rw [hd] at hi
 cases hi
 rw [decide_eq_true rfl, Bool.not_true, cond_false]
 exact hnx () rfl
theorem law_wm (l : List api_Way) (sizes : List Int) (s to : Int) : Law_WaysMatch l sizes s to = some true := by
 unfold Law_WaysMatch
 rw [landed_wm, call_some, Bool.not_true, cond_false, chk_true (by omega), letv_eq, chk_true (by omega), letv_eq]
 generalize hl1 : List.take ((min (l.length : Int) 40).toNat) l = l1
 generalize hs1 : List.take ((min (sizes.length : Int) 9).toNat) sizes = s1
 have hm : l1.length ≤ 40 := by rw [← hl1, List.length_take]; omega
 have hn : s1.length ≤ 9 := by rw [← hs1, List.length_take]; omega
 have hR := R_ways_eq (l := l1) (sizes := s1) hm hn
 have hD := D_ways_eq (l := l1) (sizes := s1) hm hn
 obtain ⟨e, he⟩ := firstE_some (er := sErr) s1 _ (firstE_some (er := wErr s1.length) l1 (some 0) ⟨0, rfl⟩)
 rw [he] at hR hD
 rw [hR, call_some]
 by_cases e0 : e = 0
 ·subst e0
  have g := good_of hm hn he
  by_cases hr : (0 ≤ to ∧ to < s1.length) ∧ -1 ≤ s ∧ s < s1.length
  ·obtain ⟨⟨h0, h1⟩, h2, h3⟩ := hr
   obtain ⟨⟨x, y, z⟩, e1, h4, h5⟩ := delta_Best_ok g hD h0 h1 h2 h3
   obtain ⟨⟨x', y', z'⟩, e2, h6, h7⟩ := R_Best_ok g h0 h1 h2 h3
   simp only at h4 h5 h6 h7
   have := Opt_unique h5 h7
   simp only [Prod.mk.injEq] at this
   obtain ⟨rfl, rfl⟩ := this
   subst h4; subst h6
   rw [e1, call_some, hD, call_some, decide_eq_true rfl, Bool.not_true, cond_false, cond_false, e2, call_some, eqI_same, call_some]
   simp
  ·have e1 : delta_Best l1 s1 s to = some ([], 0, 10) := by
    unfold delta_Best
    rw [hD, call_some, decide_eq_true rfl, Bool.not_true, cond_false, letv_eq, wrapS (by omega) (by omega)]
    unfold delta_outside
    simp only [call_some]
    by_cases h1 : to < 0 ∨ (s1.length : Int) - 1 < to
    ·have : (decide (to < 0) || decide ((s1.length : Int) - 1 < to)) = true := by simpa using h1
     rw [this, Bool.not_true, callG_false, Bool.true_or, cond_true]
    ·have : (decide (to < 0) || decide ((s1.length : Int) - 1 < to)) = false := by
      simp only [Bool.or_eq_false_iff, decide_eq_false_iff_not]; omega
     rw [this, Bool.not_false, callG_true, call_some, Bool.false_or]
     have : (decide (s < -1) || decide ((s1.length : Int) - 1 < s)) = true := by
      simp only [Bool.or_eq_true, decide_eq_true_eq]; omega
     rw [this, cond_true]
   have e2 : R_Best l1 s1 s to = some ([], 0, 10) := by
    unfold R_Best
    have : ((((decide (to < 0)) || (decide ((s1.length : Int) ≤ to))) || (decide (s < (-1)))) || (decide ((s1.length : Int) ≤ s))) = true := by
     simp only [Bool.or_eq_true, decide_eq_true_eq]; omega
    rw [this, cond_true]
   rw [e1, call_some, hD, call_some, decide_eq_true rfl, Bool.not_true, cond_false, cond_false, e2, call_some, eqI_same, call_some]
   simp
 ·have e1 : delta_Best l1 s1 s to = some ([], 0, e) := by
   unfold delta_Best
   rw [hD, call_some, decide_eq_false e0, Bool.not_false, cond_true]
  rw [e1, call_some, hD, call_some, decide_eq_true rfl, Bool.not_true, cond_false, decide_eq_false e0, Bool.not_false, cond_true]
  simp
end Go.Md
