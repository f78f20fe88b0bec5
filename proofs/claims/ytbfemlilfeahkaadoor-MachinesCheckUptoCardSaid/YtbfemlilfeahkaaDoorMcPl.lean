/- Plain lemmas on the models: the law's model answers true. -/
import Derived.Test.YtbfemlilfeahkaaDoorMcMd
set_option linter.unusedSimpArgs false
set_option linter.unusedVariables false
namespace Go.Md
open Go.Vc
section
variable {Z A S α : Type}
theorem call_some (x : A) (k : A → Option Z) : call (some x) k = k x := rfl
theorem callG_some (g : Bool) (x d : A) (k : A → Option Z) : callG g (some x) d k = k (bif g then x else d) := by cases g <;> rfl
theorem chk_true {p : Prop} [Decidable p] (h : p) (m : Option Z) : chk p m = m := if_pos h
theorem jp_eq (F : S → Option Z) (m : (S → Option Z) → Option Z) : jp F m = m F := rfl
theorem idxS_eq {s : Str} {i : Nat} (h : i < s.length) (k : Int → Option Z) : idxS s i k = k (s[i].toNat : Int) := by
  unfold idxS
  simp [h]
theorem idx_eq {l : List α} {i : Nat} (h : i < l.length) (k : α → Option Z) : idx l i k = k l[i] := by
  unfold idx
  simp [h]
/-- A loop that hands back z at the first that is not as it should be. -/
theorem forL_all {f : Nat → α → Unit → (Unit → Option Z) → (Unit → Option Z) → Option Z} {z : Z} (q : α → Bool) (hf : ∀ i x nx k, f i x () nx k = bif q x then nx () else some z) (k : Unit → Option Z) :
    ∀ (l : List α) (i : Nat), forL l i f () k = bif l.all q then k () else some z
  | [], i => rfl
  | x :: l, i => by
    unfold forL
    rw [hf, forL_all q hf k l (i + 1), List.all_cons]
    cases q x <;> rfl
end
theorem wrapS {n : Int} (h1 : -9223372036854775808 ≤ n) (h2 : n ≤ 9223372036854775807) : IntKind.i64.wrap n = n := wrap64 h1 h2

theorem index47 (s : Str) : strings_Index s [47] = some (bif decide (s = [47]) then 0 else ixByte s 47) := by
  unfold strings_Index internal_stringslite_Index internal_stringslite_IndexByte
  by_cases h : s = [47]
  · subst h; rfl
  · have : (decide (([47] : Str) = s)) = false := by simpa using fun e => h e.symm
    simp only [this, decide_eq_false h, List.length_cons, List.length_nil, Bool.or_false]
    rfl
theorem index47' (s : Str) : strings_Index s [47] = some (ixByte s 47) := by
  rw [index47]
  by_cases h : s = [47]
  · subst h; rfl
  · rw [decide_eq_false h]; rfl
theorem count47 (s : Str) : strings_Count s [47] = some (cntByte s 47) := rfl
theorem b47 : (47 : Int).toNat.toUInt8 = 47 := rfl
theorem ix_cut : ∀ (s : Str) (c : UInt8), c ∈ s → ∃ n : Nat, Lib.indexByte s c = n ∧ n < s.length ∧ (s.drop (n + 1)).count c + 1 = s.count c
  | [], c, h => by cases h
  | b :: s, c, h => by
    unfold Lib.indexByte
    by_cases hb : b = c
    · subst hb
      exact ⟨0, by simp, by simp, by simp⟩
    · have hm : c ∈ s := by rcases List.mem_cons.1 h with rfl | h; exact absurd rfl hb; exact h
      obtain ⟨n, h1, h2, h3⟩ := ix_cut s c hm
      refine ⟨n + 1, ?_, by simp; omega, ?_⟩
      · rw [if_neg (by simpa using hb), if_neg (by simp [h1]), h1]; rfl
      · rw [List.drop_succ_cons, List.count_cons_of_ne (by simpa using hb)]; exact h3
theorem splitLoop {f : Str × Int × List Str → ((Str × Int × List Str) → Option (List Str)) → ((Str × Int × List Str) → Option (List Str)) → Option (List Str)} {k : Str × Int × List Str → Option (List Str)} {m : Nat} (hm : m ≤ 1048577)
    (hf : ∀ (s : Str) (i : Nat) (o : List Str) nx, o.length = m + 1 → s.length ≤ 1048576 → i + s.count 47 = m → f (s, i, o) nx k = if i < m then nx (s.drop ((ixByte s 47).toNat + 1), ((i + 1 : Nat) : Int), o.set i (s.take (ixByte s 47).toNat)) else k (s, i, o)) :
    ∀ (n : Nat) (s : Str) (i : Nat) (o : List Str), m + 1 - i ≤ n → o.length = m + 1 → s.length ≤ 1048576 → i + s.count 47 = m → ∃ s' o', loopN n f (s, i, o) k = k (s', (m : Int), o') ∧ o'.length = m + 1
  | 0, s, i, o, hn, ho, hs, hc => by omega
  | n + 1, s, i, o, hn, ho, hs, hc => by
    unfold loopN
    rw [hf s i o _ ho hs hc]
    split
    · rename_i hi
      have hmem : (47 : UInt8) ∈ s := by
        rw [← List.count_pos_iff]; omega
      obtain ⟨j, h1, h2, h3⟩ := ix_cut s 47 hmem
      have e : (ixByte s 47).toNat = j := by unfold ixByte; rw [b47, h1]; rfl
      rw [e]
      exact splitLoop hm hf n _ (i + 1) _ (by omega) (by simpa using ho) (by simp; omega) (by omega)
    · rename_i hi
      have : i = m := by omega
      subst this
      exact ⟨s, o, rfl, ho⟩
theorem splitEnd {f : Str × Int × List Str → ((Str × Int × List Str) → Option (List Str)) → ((Str × Int × List Str) → Option (List Str)) → Option (List Str)} {k : Str × Int × List Str → Option (List Str)} {m N : Nat} {s : Str} (hN : 1048578 ≤ N) (hm : m ≤ 1048577)
    (hf : ∀ (s : Str) (i : Nat) (o : List Str) nx, o.length = m + 1 → s.length ≤ 1048576 → i + s.count 47 = m → f (s, i, o) nx k = if i < m then nx (s.drop ((ixByte s 47).toNat + 1), ((i + 1 : Nat) : Int), o.set i (s.take (ixByte s 47).toNat)) else k (s, i, o))
    (hs : s.length ≤ 1048576) (hc : s.count 47 = m) (he : ∀ (s' : Str) (o' : List Str), o'.length = m + 1 → ∃ l, k (s', (m : Int), o') = some l) : ∃ l, loopN N f (s, 0, List.replicate ((m + 1 : Nat) : Int).toNat []) k = some l := by
  obtain ⟨s', o', h1, h2⟩ := splitLoop hm hf N s 0 (List.replicate ((m + 1 : Nat) : Int).toNat []) (by omega) (by simp) hs (by omega)
  rw [show ((0 : Nat) : Int) = 0 from rfl] at h1
  obtain ⟨l, hl⟩ := he s' o' h2
  exact ⟨l, h1.trans hl⟩
theorem fuel_ge : 1048578 ≤ Fuel := by unfold Fuel; omega
theorem split_some (s : Str) (hs : s.length ≤ 1048576) : ∃ l, strings_Split s [47] = some l := by
  unfold strings_Split
  have hcl := List.count_le_length (a := (47 : UInt8)) (l := s)
  have key : ∃ l, strings_genSplit s [47] 0 (-1) = some l := by
    unfold strings_genSplit
    obtain ⟨N, hN⟩ : ∃ N, Fuel = N := ⟨_, rfl⟩
    have hN2 : 1048578 ≤ N := hN ▸ fuel_ge
    rw [hN]
    clear hN
    have hw1 : IntKind.i64.wrap ((s.length : Int) + 1) = (s.length : Int) + 1 := wrapS (by omega) (by omega)
    have hw2 : IntKind.i64.wrap (cntByte s 47 + 1) = ((s.count 47 + 1 : Nat) : Int) := by
      have : cntByte s 47 = (s.count 47 : Nat) := rfl
      rw [this, wrapS (by omega) (by omega)]; rfl
    have hmin : min ((s.count 47 + 1 : Nat) : Int) ((s.length : Int) + 1) = ((s.count 47 + 1 : Nat) : Int) := by omega
    simp only [jp_eq, count47, call_some, hw2, hw1, hmin, show decide ((-1 : Int) = 0) = false from rfl, show decide ((-1 : Int) < 0) = true from rfl, show decide (([47] : Str) = []) = false from rfl, cond_true, cond_false]
    rw [chk_true (by omega)]
    have hw : IntKind.i64.wrap (((List.count 47 s + 1 : Nat) : Int) - 1) = ((List.count 47 s : Nat) : Int) := by rw [wrapS (by omega) (by omega)]; omega
    refine splitEnd (m := s.count 47) hN2 (by omega) ?_ hs rfl ?_
    · intro t i o nx ho ht hc
      have hcl' := List.count_le_length (a := (47 : UInt8)) (l := t)
      simp only [hw, index47', call_some]
      by_cases hi : i < s.count 47
      · rw [if_pos (by omega), decide_eq_true (by omega)]
        have hmem : (47 : UInt8) ∈ t := by rw [← List.count_pos_iff]; omega
        obtain ⟨j, h1, h2, h3⟩ := ix_cut t 47 hmem
        have e : ixByte t 47 = j := by unfold ixByte; rw [b47, h1]
        have hw3 : IntKind.i64.wrap ((j : Int) + 0) = j := by rw [wrapS (by omega) (by omega)]; omega
        have hw4 : IntKind.i64.wrap ((j : Int) + (([47] : Str).length : Int)) = ((j + 1 : Nat) : Int) := by rw [wrapS (by simp; omega) (by simp; omega)]; rfl
        have hw5 : IntKind.i64.wrap ((i : Int) + 1) = ((i + 1 : Nat) : Int) := by rw [wrapS (by omega) (by omega)]; rfl
        simp only [e, hw3, hw4, hw5, cond_true, Int.toNat_natCast]
        rw [decide_eq_false (by omega), cond_false, chk_true (by omega), chk_true (by omega), chk_true (by omega)]
      · rw [if_neg (by omega), decide_eq_false (by omega)]; rfl
    · intro s' o' ho
      have hw5 : IntKind.i64.wrap ((s.count 47 : Int) + 1) = ((s.count 47 + 1 : Nat) : Int) := by rw [wrapS (by omega) (by omega)]; rfl
      simp only [hw5, Int.toNat_natCast, List.length_set]
      rw [chk_true (by omega), chk_true (by omega)]
      exact ⟨_, rfl⟩
  obtain ⟨l, hl⟩ := key
  rw [hl]; exact ⟨l, rfl⟩
end Go.Md
namespace Go.Md
open Go.Vc
def allI {α : Type} (q : Nat → α → Bool) : Nat → List α → Bool
  | _, [] => true
  | i, x :: l => q i x && allI q (i + 1) l
section
variable {Z α : Type}
theorem forL_allI {f : Nat → α → Unit → (Unit → Option Z) → (Unit → Option Z) → Option Z} {z : Z} (q : Nat → α → Bool) (hf : ∀ i x nx k, f i x () nx k = bif q i x then nx () else some z) (k : Unit → Option Z) :
    ∀ (l : List α) (i : Nat), forL l i f () k = bif allI q i l then k () else some z
  | [], i => rfl
  | x :: l, i => by
    unfold forL allI
    rw [hf, forL_allI q hf k l (i + 1)]
    cases q i x <;> rfl
theorem condS (b : Bool) (x y : Z) : (bif b then some x else some y) = some (bif b then x else y) := by cases b <;> rfl
end
def smallB (c : UInt8) : Bool := decide (97 ≤ (c.toNat : Int)) && decide ((c.toNat : Int) ≤ 122)
def digitB (c : UInt8) : Bool := decide (48 ≤ (c.toNat : Int)) && decide ((c.toNat : Int) ≤ 57)
def nameB (c : UInt8) : Bool := ((smallB c || digitB c) || decide ((c.toNat : Int) = 45)) || decide ((c.toNat : Int) = 46)
def nameOk (s : Str) : Bool := ((s.all nameB && (!decide (s = []) && decide ((s.length : Int) ≤ 40))) && smallB (s.getD 0 0))
theorem orG (a b : Bool) : (a || bif !a then b else false) = (a || b) := by cases a <;> rfl
theorem ver_IsName_1_eq (c : UInt8) : ver_IsName_1 (c.toNat : Int) = some (nameB c) := by
  unfold ver_IsName_1 ver_isSmall ver_isDigit
  simp only [call_some, callG_some, orG]
  rfl
theorem ver_IsName_eq (s : Str) : ver_IsName s = some (nameOk s) := by
  unfold ver_IsName ver_each_i1
  simp only [jp_eq]
  rw [forL_all nameB (fun i x nx k => by simp only [ver_IsName_1_eq, call_some]; cases nameB x <;> rfl)]
  simp only [condS, call_some]
  rw [chk_true]
  · unfold ver_isSmall
    simp only [callG_some]
    unfold nameOk smallB
    generalize hA : s.all nameB = A
    cases A <;> simp only [cond_true, cond_false, Bool.false_and, Bool.true_and]
    generalize hB : (!decide (s = []) && decide ((s.length : Int) ≤ 40)) = B
    cases B <;> rfl
  · intro h
    cases s with
    | nil => cases hA : List.all [] nameB <;> rw [hA] at h <;> simp at h
    | cons => simp only [List.length_cons]; omega
theorem condN {Z : Type} (c : Bool) (x y : Z) : (bif c then x else y) = bif !c then y else x := by cases c <;> rfl
theorem allI_all {α : Type} {q : Nat → α → Bool} {p : α → Bool} : ∀ (l : List α) (i : Nat), (∀ j x, i ≤ j → q j x = p x) → allI q i l = l.all p
  | [], i, _ => rfl
  | x :: l, i, h => by
    unfold allI
    rw [h i x (Nat.le_refl _), allI_all l (i + 1) (fun j x hj => h j x (by omega)), List.all_cons]
theorem R_IsName_eq (s : Str) : R_IsName s = some (nameOk s) := by
  unfold R_IsName
  simp only [jp_eq]
  refine (forL_allI (z := false) (fun i c => !((decide ((i : Int) = 0) && !smallB c) || !nameB c)) (fun i c nx k => ?_) _ _ _).trans ?_
  · rw [condN]
    congr 1
    unfold nameB smallB digitB
    rw [Bool.eq_iff_iff]
    simp only [Bool.or_eq_true, Bool.and_eq_true, Bool.not_eq_true', decide_eq_true_eq, Bool.or_eq_false_iff, Bool.and_eq_false_iff, decide_eq_false_iff_not, Bool.not_eq_false']
    omega
  simp only [condS]
  congr 1
  unfold nameOk
  cases s with
  | nil => rfl
  | cons x l =>
    unfold allI
    rw [allI_all (p := nameB) l 1 (fun j x hj => by rw [decide_eq_false (by omega)]; cases nameB x <;> rfl), List.all_cons]
    simp only [List.getD_cons_zero]
    cases nameB x <;> cases smallB x <;> cases l.all nameB <;> simp
def valB (c : UInt8) : Bool := decide (32 ≤ (c.toNat : Int)) && decide ((c.toNat : Int) ≤ 126)
def valueOk (s : Str) : Bool := s.all valB && decide ((s.length : Int) ≤ 1000)
theorem R_IsValue_eq (s : Str) : R_IsValue s = some (valueOk s) := by
  unfold R_IsValue
  simp only [jp_eq]
  refine (forL_all (z := false) valB (fun i c nx k => ?_) _ _ _).trans ?_
  · rw [condN]
    congr 1
    unfold valB
    rw [Bool.eq_iff_iff]
    simp only [Bool.or_eq_true, Bool.and_eq_true, Bool.not_eq_true', decide_eq_true_eq, Bool.or_eq_false_iff, Bool.and_eq_false_iff, decide_eq_false_iff_not, Bool.not_eq_false']
    omega
  · simp only [condS]
    unfold valueOk
    cases s.all valB <;> rfl
theorem ver_IsValue_eq (s : Str) : ver_IsValue s = some (valueOk s) := by
  unfold ver_IsValue ver_each_i2
  simp only [jp_eq]
  rw [forL_all valB (fun i x nx k => by unfold ver_IsValue_1 valB; simp only [call_some]; rw [condN, Bool.not_not])]
  simp only [condS, callG_some]
  unfold valueOk
  cases s with
  | nil => rfl
  | cons x l => simp only [show decide (x :: l = []) = false from rfl, Bool.not_false, Bool.true_and, cond_true, Bool.false_or]; cases List.all (x :: l) valB <;> rfl
def partB (c : UInt8) : Bool := ((((smallB c || (decide (65 ≤ (c.toNat : Int)) && decide ((c.toNat : Int) ≤ 90))) || digitB c) || decide ((c.toNat : Int) = 45)) || decide ((c.toNat : Int) = 46)) || decide ((c.toNat : Int) = 95)
def partOk (s : Str) : Bool := ((s.all partB && (!decide (s = []) && decide ((s.length : Int) ≤ 40))) && !decide (s = [46])) && !decide (s = [46, 46])
theorem R_isPart_eq (s : Str) : R_isPart s = some (partOk s) := by
  unfold R_isPart
  simp only [jp_eq]
  refine (forL_all (z := false) partB (fun i c nx k => ?_) _ _ _).trans ?_
  · rw [condN]
    congr 1
    unfold partB smallB digitB
    rw [Bool.eq_iff_iff]
    simp only [Bool.or_eq_true, Bool.and_eq_true, Bool.not_eq_true', decide_eq_true_eq, Bool.or_eq_false_iff, Bool.and_eq_false_iff, decide_eq_false_iff_not, Bool.not_eq_false']
    omega
  · simp only [condS]
    unfold partOk
    cases s.all partB <;> rfl
theorem orG3 (a b d : Bool) : ((a || b) || bif !(a || b) then d else false) = ((a || b) || d) := by cases a <;> cases b <;> rfl
theorem ver_isPart_eq (s : Str) : ver_isPart s = some (partOk s) := by
  unfold ver_isPart ver_each_i3
  simp only [jp_eq]
  rw [forL_all partB (fun i x nx k => by
    unfold ver_isPart_1 partB ver_isSmall ver_isDigit smallB digitB
    simp only [call_some, callG_some, orG3]
    rw [condN, Bool.not_not])]
  simp only [condS, call_some]
  unfold partOk
  cases s.all partB <;> rfl
/-- What a path is: all its parts are good, and it is not long. -/
def pathOk (s : Str) : Bool := match strings_Split s [47] with
  | some l => l.all partOk && decide ((s.length : Int) ≤ 200)
  | none => false
theorem R_IsPath_eq (s : Str) (hs : s.length ≤ 1048576) : R_IsPath s = some (pathOk s) := by
  obtain ⟨l, hl⟩ := split_some s hs
  unfold R_IsPath pathOk
  simp only [jp_eq, hl, call_some]
  rw [forL_all partOk (fun i x nx k => by rw [R_isPart_eq, call_some, condN, Bool.not_not])]
  cases l.all partOk <;> rfl
theorem ver_IsPath_eq (s : Str) (hs : s.length ≤ 1048576) : ver_IsPath s = some (pathOk s) := by
  obtain ⟨l, hl⟩ := split_some s hs
  unfold ver_IsPath pathOk
  simp only [jp_eq, hl, call_some]
  rw [forL_all partOk (fun i x nx k => by rw [ver_isPart_eq, call_some, condN, Bool.not_not])]
  cases l.all partOk <;> rfl
end Go.Md
namespace Go.Md
open Go.Vc
def strLe (a b : Str) : Bool := strLt a b || decide (a = b)
theorem when_eq (b : Bool) (e : Int) : R_when b e = some (bif b then e else 0) := by cases b <;> rfl
def or2 (a b : Int) : Int := bif !decide (a = 0) then a else b
theorem first1 (a : Int) : R_first [a] = some a := by
  unfold R_first
  simp only [jp_eq, forL]
  by_cases h : a = 0
  · subst h; rfl
  · rw [decide_eq_false h]; rfl
theorem first_cons (a : Int) (l : List Int) (r : Int) (h : R_first l = some r) : R_first (a :: l) = some (or2 a r) := by
  unfold R_first at *
  simp only [jp_eq, forL] at *
  unfold or2
  by_cases ha : a = 0
  · subst ha
    simp only [decide_true, Bool.not_true, cond_false]
    rw [← h]
    have : ∀ (l : List Int) (i j : Nat), forL l i (fun i_14 e_16 s nx_13 k_12 => bif !decide (e_16 = 0) then some e_16 else nx_13 ()) () (fun _ => some (0 : Int)) = forL l j (fun i_14 e_16 s nx_13 k_12 => bif !decide (e_16 = 0) then some e_16 else nx_13 ()) () (fun _ => some (0 : Int)) := by
      intro l
      induction l with
      | nil => intro i j; rfl
      | cons x l ih => intro i j; unfold forL; simp only [ih (i + 1) (j + 1)]
    exact this l _ _
  · rw [decide_eq_false ha]; rfl
theorem first2 (a b : Int) : R_first [a, b] = some (or2 a b) := first_cons a _ _ (first1 b)
theorem first3 (a b c : Int) : R_first [a, b, c] = some (or2 a (or2 b c)) := first_cons a _ _ (first2 b c)
def eFact (s : api_Setting) : Int := bif !nameOk s.Key then 5 else bif !valueOk s.Value then 2 else 0
def eSet (s : api_Setting) : Int := bif !pathOk s.Key then 5 else bif !valueOk s.Value then 2 else 0
def eFile (f : api_File) : Int := bif !pathOk f.Path then 5 else bif decide (65536 < (f.Data.length : Int)) then 4 else 0
def eSvc (s : api_Service) : Int := bif !nameOk s.Name || !pathOk s.Path then 5 else 0
def ord (i : Nat) (a last : Str) : Bool := decide (0 < (i : Int)) && strLe a last
/-- The first fault of a list. -/
def firstE {α : Type} (e : α → Int) (nm : α → Str) : Nat → Str → List α → Int
  | _, _, [] => 0
  | i, last, x :: l => bif !decide (e x = 0) then e x else bif ord i (nm x) last then 7 else firstE e nm (i + 1) (nm x) l
theorem firstE_zero {α : Type} (e : α → Int) (nm : α → Str) (a b : Str) (l : List α) : firstE e nm 0 a l = firstE e nm 0 b l := by
  cases l <;> rfl
section
variable {Z α : Type} {e : α → Int} {nm : α → Str}
/-- The reference's loop. -/
theorem loopR {f : Nat → α → Str → (Str → Option Int) → (Str → Option Int) → Option Int} {K : Str → Option Int} (P : α → Prop)
    (hf : ∀ i x last nx k, P x → f i x last nx k = bif !decide (or2 (e x) (bif ord i (nm x) last then 7 else 0) = 0) then some (or2 (e x) (bif ord i (nm x) last then 7 else 0)) else nx (nm x)) :
    ∀ (l : List α) (i : Nat) (last : Str), (∀ x ∈ l, P x) → ∃ last', forL l i f last K = bif !decide (firstE e nm i last l = 0) then some (firstE e nm i last l) else K last'
  | [], i, last, _ => ⟨last, rfl⟩
  | x :: l, i, last, hp => by
    obtain ⟨last', h⟩ := loopR P hf l (i + 1) (nm x) (fun y hy => hp y (List.mem_cons_of_mem _ hy))
    refine ⟨last', ?_⟩
    unfold forL firstE
    rw [hf _ _ _ _ _ (hp x (List.mem_cons_self ..)), h]
    unfold or2
    by_cases h1 : e x = 0
    · simp only [h1, decide_true, Bool.not_true, cond_false]
      cases ord i (nm x) last <;> rfl
    · simp only [decide_eq_false h1, Bool.not_false, cond_true]
/-- The program's loop. -/
theorem loopD {f : Nat → α → Unit → (Unit → Option Int) → (Unit → Option Int) → Option Int} {K : Unit → Option Int} (P : α → Prop) (L : List α) (d : α)
    (hf : ∀ (i : Nat) x nx k, P x → i < L.length → f i x () nx k = bif !decide (e x = 0) then some (e x) else bif ord i (nm x) (nm (L.getD (i - 1) d)) then some 7 else nx ()) :
    ∀ (l : List α) (i : Nat), L.drop i = l → (∀ x ∈ l, P x) → forL l i f () K = bif !decide (firstE e nm i (nm (L.getD (i - 1) d)) l = 0) then some (firstE e nm i (nm (L.getD (i - 1) d)) l) else K ()
  | [], i, _, _ => rfl
  | x :: l, i, hd, hp => by
    have hi : i < L.length := by
      rcases Nat.lt_or_ge i L.length with h | h
      · exact h
      · rw [List.drop_eq_nil_of_le h] at hd; cases hd
    have hx : L.getD i d = x := by
      have := List.drop_eq_getElem_cons hi
      rw [hd] at this
      have := (List.cons.inj this).1
      rw [this]; simp [hi]
    have hd' : L.drop (i + 1) = l := by
      have := congrArg List.tail hd
      simpa using this
    unfold forL firstE
    rw [hf _ _ _ _ (hp x (List.mem_cons_self ..)) hi, loopD P L d hf l (i + 1) hd' (fun y hy => hp y (List.mem_cons_of_mem _ hy))]
    simp only [Nat.add_sub_cancel, hx]
    by_cases h1 : e x = 0
    · simp only [h1, decide_true, Bool.not_true, cond_false]
      cases ord i (nm x) (nm (L.getD (i - 1) d)) <;> rfl
    · simp only [decide_eq_false h1, Bool.not_false, cond_true]
end
theorem chk1_eq (i : Nat) (s last : Str) : R_Check_1_i1 (i : Int) s last = some ((bif ord i s last then 7 else 0), s) := by
  unfold R_Check_1_i1
  rw [when_eq, call_some]; rfl
/-- What may be asked of the paths here. -/
def Sm (s : Str) : Prop := s.length ≤ 1048576
theorem R_fileError_eq (f : api_File) (h : Sm f.Path) : R_fileError f = some (eFile f) := by
  unfold R_fileError
  rw [R_IsPath_eq _ h]
  simp only [call_some, when_eq, first2]
  unfold eFile or2
  cases pathOk f.Path <;> rfl
theorem R_settingError_eq (f : api_Setting) (h : Sm f.Key) : R_settingError f = some (eSet f) := by
  unfold R_settingError
  rw [R_IsPath_eq _ h, R_IsValue_eq]
  simp only [call_some, when_eq, first2]
  unfold eSet or2
  cases pathOk f.Key <;> rfl
theorem R_serviceError_eq (f : api_Service) (h : Sm f.Path) : R_serviceError f = some (eSvc f) := by
  unfold R_serviceError
  rw [R_IsPath_eq _ h, R_IsName_eq]
  simp only [call_some, callG_some, when_eq]
  unfold eSvc
  cases nameOk f.Name <;> cases pathOk f.Path <;> rfl
theorem D_fileFault_eq (f : api_File) (h : Sm f.Path) : disk_fileFault f = some (eFile f) := by
  unfold disk_fileFault
  rw [ver_IsPath_eq _ h]
  simp only [call_some]
  unfold eFile
  cases pathOk f.Path
  · rfl
  · simp only [Bool.not_true, cond_false, condS]
theorem D_set_eq (f : api_Setting) (h : Sm f.Key) : disk_Check_3 f = some (eSet f) := by
  unfold disk_Check_3 disk_settingFault_i2
  rw [ver_IsPath_eq _ h, ver_IsValue_eq]
  simp only [call_some]
  unfold eSet
  cases pathOk f.Key <;> cases valueOk f.Value <;> rfl
theorem D_fact_eq (f : api_Setting) : disk_Check_1 f = some (eFact f) := by
  unfold disk_Check_1 disk_settingFault_i1
  rw [ver_IsName_eq, ver_IsValue_eq]
  simp only [call_some]
  unfold eFact
  cases nameOk f.Key <;> cases valueOk f.Value <;> rfl
theorem D_svc_eq (f : api_Service) (h : Sm f.Path) : disk_serviceFault f = some (eSvc f) := by
  unfold disk_serviceFault
  rw [ver_IsPath_eq _ h, ver_IsName_eq]
  simp only [call_some, callG_some]
  unfold eSvc
  cases nameOk f.Name <;> cases pathOk f.Path <;> rfl
theorem wrap_pred {i : Nat} (h : 0 < i) (h2 : i ≤ 274877906944) : IntKind.i64.wrap ((i : Int) - 1) = ((i - 1 : Nat) : Int) := by rw [wrapS (by omega) (by omega)]; omega
end Go.Md
namespace Go.Md
open Go.Vc
theorem ordE {i : Nat} {a b : Str} : (decide (0 < (i : Int)) && (strLt a b || decide (a = b))) = ord i a b := rfl
theorem eachSet1 (l : List api_Setting) (hl : l.length ≤ 1048576) : disk_eachFault_api_Setting_i1 l = some (firstE eFact (·.Key) 0 [] l) := by
  unfold disk_eachFault_api_Setting_i1
  simp only [jp_eq]
  rw [loopD (e := eFact) (nm := (·.Key)) (fun _ => True) l ⟨[], []⟩ (fun i x nx k _ hi => by
    rw [D_fact_eq]
    simp only [call_some, disk_keyOf, callG_some]
    cases hg : decide (0 < (i : Int)) with
    | false => rw [chk_true (by intro h; cases h)]; unfold ord; rw [hg]; rfl
    | true =>
      have hi0 : 0 < i := by simpa using hg
      rw [wrap_pred hi0 (by omega), chk_true (by intro _; omega)]
      simp only [cond_true, Int.toNat_natCast]
      unfold ord strLe; rw [hg]) l 0 rfl (fun _ _ => trivial)]
  rw [condS]
  rw [firstE_zero eFact (·.Key) _ []]
  cases h : decide (firstE eFact (·.Key) 0 [] l = 0)
  · rfl
  · rw [of_decide_eq_true h]; rfl
theorem eachSet2 (l : List api_Setting) (hl : l.length ≤ 1048576) (hs : ∀ x ∈ l, Sm x.Key) : disk_eachFault_api_Setting_i2 l = some (firstE eSet (·.Key) 0 [] l) := by
  unfold disk_eachFault_api_Setting_i2
  simp only [jp_eq]
  rw [loopD (e := eSet) (nm := (·.Key)) (fun x => Sm x.Key) l ⟨[], []⟩ (fun i x nx k hx hi => by
    rw [D_set_eq _ hx]
    simp only [call_some, disk_keyOf, callG_some]
    cases hg : decide (0 < (i : Int)) with
    | false => rw [chk_true (by intro h; cases h)]; unfold ord; rw [hg]; rfl
    | true =>
      have hi0 : 0 < i := by simpa using hg
      rw [wrap_pred hi0 (by omega), chk_true (by intro _; omega)]
      simp only [cond_true, Int.toNat_natCast]
      unfold ord strLe; rw [hg]) l 0 rfl hs]
  rw [condS]
  rw [firstE_zero eSet (·.Key) _ []]
  cases h : decide (firstE eSet (·.Key) 0 [] l = 0)
  · rfl
  · rw [of_decide_eq_true h]; rfl
theorem eachSvc (l : List api_Service) (hl : l.length ≤ 1048576) (hs : ∀ x ∈ l, Sm x.Path) : disk_eachFault_api_Service_i1 l = some (firstE eSvc (·.Name) 0 [] l) := by
  unfold disk_eachFault_api_Service_i1
  simp only [jp_eq]
  rw [loopD (e := eSvc) (nm := (·.Name)) (fun x => Sm x.Path) l ⟨[], [], false, false⟩ (fun i x nx k hx hi => by
    rw [D_svc_eq _ hx]
    simp only [call_some, disk_nameOf, callG_some]
    cases hg : decide (0 < (i : Int)) with
    | false => rw [chk_true (by intro h; cases h)]; unfold ord; rw [hg]; rfl
    | true =>
      have hi0 : 0 < i := by simpa using hg
      rw [wrap_pred hi0 (by omega), chk_true (by intro _; omega)]
      simp only [cond_true, Int.toNat_natCast]
      unfold ord strLe; rw [hg]) l 0 rfl hs]
  rw [condS]
  rw [firstE_zero eSvc (·.Name) _ []]
  cases h : decide (firstE eSvc (·.Name) 0 [] l = 0)
  · rfl
  · rw [of_decide_eq_true h]; rfl
/-! ### the files -/
abbrev Mp := List (Str × Bool)
def abvQ (m : Mp) (path : Str) (i : Nat) (c : UInt8) : Bool := !(decide ((c.toNat : Int) = 47) && (alook m (path.take i)).getD false)
def abv (m : Mp) (path : Str) : Bool := allI (abvQ m path) 0 path
def filesE : Nat → Str → Mp → List api_File → Int
  | _, _, _, [] => 0
  | i, last, m, x :: l => bif !decide (eFile x = 0) then eFile x else bif ord i x.Path last then 7 else bif !abv m x.Path then 11 else filesE (i + 1) x.Path (aset m x.Path true) l
theorem filesE_zero (a b : Str) (m : Mp) (l : List api_File) : filesE 0 a m l = filesE 0 b m l := by cases l <;> rfl
theorem aset_len : ∀ (m : Mp) (k : Str) (v : Bool), (aset m k v).length ≤ m.length + 1
  | [], k, v => by simp [aset]
  | p :: m, k, v => by
    unfold aset
    have := aset_len m k v
    cases decide (p.1 = k) <;> simp <;> omega
theorem above_eq (path : Str) (m : Mp) : disk_above_i1 path m = some (abv m path) := by
  unfold disk_above_i1
  simp only [jp_eq]
  have hk : ∀ i : Nat, True := fun _ => trivial
  have : ∀ (l : Str) (i : Nat), path.drop i = l → forL l i (fun i_44 c_46 s nx_43 k_42 =>
    chk ((decide ((c_46.toNat : Int) = 47)) = true → (0 ≤ (i_44 : Int) ∧ (i_44 : Int) ≤ (path.length : Int))) <|
    callG (decide ((c_46.toNat : Int) = 47)) (disk_Check_2_i1 (List.take i_44 path) m) false fun r_48 =>
    bif ((decide ((c_46.toNat : Int) = 47)) && (!r_48)) then
      some false
    else
    nx_43 ()) () (fun _ => some true) = some (allI (abvQ m path) i l) := by
    intro l
    induction l with
    | nil => intro i _; rfl
    | cons c l ih =>
      intro i hd
      have hi : i < path.length := by
        rcases Nat.lt_or_ge i path.length with h | h
        · exact h
        · rw [List.drop_eq_nil_of_le h] at hd; cases hd
      unfold forL allI
      simp only [ih (i + 1) (by have := congrArg List.tail hd; simpa using this)]
      rw [chk_true (by intro _; omega)]
      simp only [disk_Check_2_i1, letv, callG_some]
      unfold abvQ
      cases decide ((c.toNat : Int) = 47) <;> cases (alook m (List.take i path)).getD false <;> rfl
  exact this path 0 rfl
theorem behindLoop (path : Str) (m : Mp) {f : Int × Int → (Int × Int → Option Int) → (Int × Int → Option Int) → Option Int} {K : Int × Int → Option Int} (hp : path.length ≤ 1048576)
    (hf : ∀ (e : Int) (i : Nat) nx, f (e, (i : Int)) nx K = if h : i < path.length then nx ((bif abvQ m path i path[i] then e else 11), ((i + 1 : Nat) : Int)) else K (e, (i : Int))) :
    ∀ (n : Nat) (e : Int) (i : Nat), path.length + 1 ≤ n + i → i ≤ path.length → loopN n f (e, (i : Int)) K = K ((bif allI (abvQ m path) i (path.drop i) then e else 11), (path.length : Int))
  | 0, e, i, h1, h2 => by omega
  | n + 1, e, i, h1, h2 => by
    unfold loopN
    rw [hf]
    by_cases h : i < path.length
    · rw [dif_pos h, behindLoop path m hp hf n _ (i + 1) (by omega) (by omega), List.drop_eq_getElem_cons h]
      rw [show allI (abvQ m path) i (path[i] :: path.drop (i + 1)) = (abvQ m path i path[i] && allI (abvQ m path) (i + 1) (path.drop (i + 1))) from rfl]
      cases abvQ m path i path[i] <;> cases allI (abvQ m path) (i + 1) (path.drop (i + 1)) <;> rfl
    · have : i = path.length := by omega
      subst this
      rw [dif_neg h, List.drop_length]; rfl
/-- The reference's files. -/
theorem filesR {f : Nat → api_File → Str × Mp → (Str × Mp → Option Int) → (Str × Mp → Option Int) → Option Int} {K : Str × Mp → Option Int}
    (hf : ∀ (i : Nat) x last (m : Mp) nx, Sm x.Path → m.length + 1 ≤ 1048576 → f i x (last, m) nx K = bif !decide (eFile x = 0) then some (eFile x) else bif ord i x.Path last then some 7 else bif !abv m x.Path then some 11 else nx (x.Path, aset m x.Path true)) :
    ∀ (l : List api_File) (i : Nat) (last : Str) (m : Mp), m.length + l.length ≤ 1048576 → (∀ x ∈ l, Sm x.Path) → ∃ s', forL l i f (last, m) K = bif !decide (filesE i last m l = 0) then some (filesE i last m l) else K s'
  | [], i, last, m, _, _ => ⟨(last, m), rfl⟩
  | x :: l, i, last, m, hm, hp => by
    have ha := aset_len m x.Path true
    simp only [List.length_cons] at hm
    obtain ⟨s', h⟩ := filesR hf l (i + 1) x.Path (aset m x.Path true) (by omega) (fun y hy => hp y (List.mem_cons_of_mem _ hy))
    refine ⟨s', ?_⟩
    unfold forL filesE
    rw [hf _ _ _ _ _ (hp x (List.mem_cons_self ..)) (by omega), h]
    by_cases h1 : eFile x = 0
    · simp only [h1, decide_true, Bool.not_true, cond_false]
      cases ord i x.Path last
      · cases abv m x.Path <;> rfl
      · rfl
    · simp only [decide_eq_false h1, Bool.not_false, cond_true]
/-- What both say of a machine. -/
def checkE (m : api_Machine) : Int :=
  bif ((((decide (100 < (m.Facts.length : Int))) || (decide (2000 < (m.Files.length : Int)))) || (decide (2000 < (m.Settings.length : Int)))) || (decide (100 < (m.Services.length : Int)))) then 4 else
  or2 (firstE eFact (·.Key) 0 [] m.Facts) (or2 (filesE 0 [] [] m.Files) (or2 (firstE eSet (·.Key) 0 [] m.Settings) (firstE eSvc (·.Name) 0 [] m.Services)))
structure Fit (m : api_Machine) : Prop where
  facts : m.Facts.length ≤ 1048576
  files : m.Files.length ≤ 1048576
  sets : m.Settings.length ≤ 1048576
  svcs : m.Services.length ≤ 1048576
  fp : ∀ x ∈ m.Files, Sm x.Path
  sp : ∀ x ∈ m.Settings, Sm x.Key
  vp : ∀ x ∈ m.Services, Sm x.Path
theorem or2_step (a b : Int) (o : Option Int) (h : o = some b) : (bif !decide (a = 0) then some a else o) = some (or2 a b) := by
  subst h; unfold or2; cases decide (a = 0) <;> rfl
theorem disk_Check_eq (m : api_Machine) (h : Fit m) : disk_Check m = some (checkE m) := by
  unfold disk_Check checkE
  generalize ((((decide (100 < (m.Facts.length : Int))) || (decide (2000 < (m.Files.length : Int)))) || (decide (2000 < (m.Settings.length : Int)))) || (decide (100 < (m.Services.length : Int)))) = B
  cases B with
  | true => rfl
  | false =>
    simp only [cond_false]
    rw [eachSet1 _ h.facts, call_some]
    refine or2_step _ _ _ ?_
    simp only [jp_eq]
    obtain ⟨s', hs⟩ := filesR (f := fun i_47 f_49 s nx_46 k_45 =>
      match s with
      | (before_37, m1_39) =>
        call (disk_fileFault f_49) fun r_50 =>
        bif !decide (r_50 = 0) then
          some r_50
        else
        bif ((decide (0 < (i_47 : Int))) && (strLt f_49.Path before_37 || decide (f_49.Path = before_37))) then
          some 7
        else
        call (disk_above_i1 f_49.Path m1_39) fun r_51 =>
        bif !r_51 then
          some 11
        else
        chk ((aset m1_39 f_49.Path true).length ≤ 274877906944) <|
        nx_46 (f_49.Path, aset m1_39 f_49.Path true)) (K := fun s => match s with
      | (before_37, m1_39) => call (disk_eachFault_api_Setting_i2 m.Settings) fun r_28 =>
        bif !decide (r_28 = 0) then
          some r_28
        else
        call (disk_eachFault_api_Service_i1 m.Services) fun r_29 =>
        some r_29) (fun i x last mm nx hx hl => by
        have ha := aset_len mm x.Path true
        simp only [D_fileFault_eq _ hx, call_some, above_eq, ordE]
        rw [chk_true (by omega)]) m.Files 0 [] [] (by simpa using h.files) h.fp
    rw [hs]
    refine or2_step _ _ _ ?_
    obtain ⟨x, y⟩ := s'
    simp only [eachSet2 _ h.sets h.sp, eachSvc _ h.svcs h.vp, call_some]
    exact or2_step _ _ _ rfl
end Go.Md
namespace Go.Md
open Go.Vc
theorem loopR_or {α : Type} {e : α → Int} {nm : α → Str} {f : Nat → α → Str → (Str → Option Int) → (Str → Option Int) → Option Int} {K : Str → Option Int} {r : Int} {l : List α} {last : Str} (P : α → Prop)
    (hf : ∀ i x last nx k, P x → f i x last nx k = bif !decide (or2 (e x) (bif ord i (nm x) last then 7 else 0) = 0) then some (or2 (e x) (bif ord i (nm x) last then 7 else 0)) else nx (nm x))
    (hp : ∀ x ∈ l, P x) (hK : ∀ last, K last = some r) : forL l 0 f last K = some (or2 (firstE e nm 0 [] l) r) := by
  obtain ⟨last', h⟩ := loopR (K := K) P hf l 0 last hp
  rw [h, firstE_zero e nm last []]
  exact or2_step _ _ _ (hK _)
theorem filesR_or {f : Nat → api_File → Str × Mp → (Str × Mp → Option Int) → (Str × Mp → Option Int) → Option Int} {K : Str × Mp → Option Int} {r : Int} {l : List api_File} {last : Str}
    (hf : ∀ (i : Nat) x last (m : Mp) nx, Sm x.Path → m.length + 1 ≤ 1048576 → f i x (last, m) nx K = bif !decide (eFile x = 0) then some (eFile x) else bif ord i x.Path last then some 7 else bif !abv m x.Path then some 11 else nx (x.Path, aset m x.Path true))
    (hl : l.length ≤ 1048576) (hp : ∀ x ∈ l, Sm x.Path) (hK : ∀ s, K s = some r) : forL l 0 f (last, []) K = some (or2 (filesE 0 [] [] l) r) := by
  obtain ⟨s', h⟩ := filesR (K := K) hf l 0 last [] (by simpa using hl) hp
  rw [h, filesE_zero last []]
  exact or2_step _ _ _ (hK _)
theorem behind_or (path : Str) (m : Mp) {f : Int × Int → (Int × Int → Option Int) → (Int × Int → Option Int) → Option Int} {K : Int × Int → Option Int} {N : Nat} {e : Int} (hN : 1048578 ≤ N) (hp : path.length ≤ 1048576)
    (hf : ∀ (e : Int) (i : Nat) nx, f (e, (i : Int)) nx K = if h : i < path.length then nx ((bif abvQ m path i path[i] then e else 11), ((i + 1 : Nat) : Int)) else K (e, (i : Int))) :
    loopN N f (e, 0) K = K ((bif abv m path then e else 11), (path.length : Int)) :=
  behindLoop path m hp hf N e 0 (by omega) (by omega)
theorem R_Check_eq (m : api_Machine) (h : Fit m) : R_Check m = some (checkE m) := by
  unfold R_Check checkE
  generalize ((((decide (100 < (m.Facts.length : Int))) || (decide (2000 < (m.Files.length : Int)))) || (decide (2000 < (m.Settings.length : Int)))) || (decide (100 < (m.Services.length : Int)))) = B
  obtain ⟨N, hN⟩ : ∃ N, Fuel = N := ⟨_, rfl⟩
  have hN2 : 1048578 ≤ N := hN ▸ fuel_ge
  rw [hN]
  clear hN
  cases B with
  | true => rfl
  | false =>
    simp only [cond_false, jp_eq]
    refine loopR_or (e := eFact) (nm := (·.Key)) (fun _ => True) (fun i x last nx k _ => ?_) (fun _ _ => trivial) fun last => ?_
    · simp only [R_IsName_eq, R_IsValue_eq, call_some, when_eq, chk1_eq, first3]
      unfold eFact or2
      cases nameOk x.Key <;> cases valueOk x.Value <;> cases ord i x.Key last <;> rfl
    refine filesR_or (fun i x last mm nx hx hl => ?_) h.files h.fp fun s => ?_
    · have ha := aset_len mm x.Path true
      simp only [R_fileError_eq _ hx, call_some, chk1_eq, first2]
      by_cases h1 : eFile x = 0
      · cases ho : ord i x.Path last with
        | true => simp only [h1, cond_true, show or2 0 7 = 7 from rfl]; rfl
        | false =>
          simp only [h1, cond_false, show or2 0 0 = 0 from rfl, decide_true, Bool.not_true, cond_true]
          rw [behind_or x.Path mm hN2 hx (fun e i nx => ?_)]
          · rw [chk_true (by omega)]
            cases abv mm x.Path <;> rfl
          · simp only [letv]
            by_cases hi : i < x.Path.length
            · rw [dif_pos hi, decide_eq_true (by omega), cond_true, idxS_eq hi, chk_true (by intro _; omega)]
              have hw : IntKind.i64.wrap ((i : Int) + 1) = ((i + 1 : Nat) : Int) := by
                have : x.Path.length ≤ 1048576 := hx
                rw [wrapS (by omega) (by omega)]; rfl
              simp only [hw, Int.toNat_natCast]
              unfold abvQ
              cases decide (((x.Path[i]).toNat : Int) = 47) && (alook mm (List.take i x.Path)).getD false <;> rfl
            · rw [dif_neg hi, decide_eq_false (by omega), cond_false]
      · have : or2 (eFile x) (bif ord i x.Path last then 7 else 0) = eFile x := by unfold or2; rw [decide_eq_false h1]; rfl
        simp only [this, decide_eq_false h1, Bool.not_false, cond_true, cond_false]
    obtain ⟨last, mm⟩ := s
    refine loopR_or (e := eSet) (nm := (·.Key)) (fun x => Sm x.Key) (fun i x last nx k hx => ?_) h.sp fun last => ?_
    · simp only [R_settingError_eq _ hx, call_some, chk1_eq, first2]
    rw [show firstE eSvc (fun x => x.Name) 0 [] m.Services = or2 (firstE eSvc (fun x => x.Name) 0 [] m.Services) 0 by unfold or2; cases hh : decide (firstE eSvc (fun x => x.Name) 0 [] m.Services = 0) <;> simp_all]
    refine loopR_or (e := eSvc) (nm := (·.Name)) (fun x => Sm x.Path) (fun i x last nx k hx => ?_) h.vp fun last => rfl
    simp only [R_serviceError_eq _ hx, call_some, chk1_eq, first2]
theorem law_mc (m : api_Machine) (h : Fit m) : Law_MachinesCheck m = some true := by
  unfold Law_MachinesCheck
  rw [show Law_landed = some true from rfl, R_Check_eq m h, disk_Check_eq m h]
  unfold disk_Size disk_Sum disk_Print disk_Boot
  rw [disk_Check_eq m h]
  generalize checkE m = E
  simp only [call_some, Bool.not_true, cond_false, decide_true]
  by_cases hE : E = 0
  · rw [decide_eq_true hE]; rfl
  · simp only [decide_eq_false hE, cond_false, Bool.not_false, cond_true, call_some, Bool.and_true, decide_true]
    rfl
end Go.Md
