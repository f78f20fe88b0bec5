/- Plain lemmas on the models: the law's model answers true. -/
import Derived.Test.YthofobeoaimclaaDoorRdMd
set_option linter.unusedSimpArgs false
set_option linter.unusedVariables false
namespace Go.Md
open Go.Vc
section
variable {Z A S α : Type}
theorem call_some (x : A) (k : A → Option Z) : call (some x) k = k x := rfl
theorem callG_some (g : Bool) (x d : A) (k : A → Option Z) : callG g (some x) d k = k (bif g then x else d) := by cases g <;> rfl
theorem callG_true (a : Option A) (d : A) (k : A → Option Z) : callG true a d k = call a k := rfl
theorem callG_false (a : Option A) (d : A) (k : A → Option Z) : callG false a d k = k d := rfl
theorem chk_true {p : Prop} [Decidable p] (h : p) (m : Option Z) : chk p m = m := if_pos h
theorem jp_eq (F : S → Option Z) (m : (S → Option Z) → Option Z) : jp F m = m F := rfl
theorem idxS_eq {s : Str} {i : Nat} (h : i < s.length) (k : Int → Option Z) : idxS s i k = k (s[i].toNat : Int) := by
 unfold idxS
 simp [h]
theorem idx_eq {l : List α} {i : Nat} (h : i < l.length) (k : α → Option Z) : idx l i k = k l[i] := by
 unfold idx
 simp [h]
theorem forL_all {f : Nat → α → Unit → (Unit → Option Z) → (Unit → Option Z) → Option Z} {z : Z} (q : α → Bool) (hf : ∀ i x nx k, f i x () nx k = bif q x then nx () else some z) (k : Unit → Option Z) :
  ∀ (l : List α) (i : Nat), forL l i f () k = bif l.all q then k () else some z
 | [], i => rfl
 | x :: l, i => by
  unfold forL
  rw [hf, forL_all q hf k l (i + 1), List.all_cons]
  cases q x <;> rfl
theorem forL_run {f : Nat → α → S → (S → Option Z) → (S → Option Z) → Option Z} {k : S → Option Z} (inv : Nat → List α → S → Prop) (R : Nat → List α → S → Option Z)
  (h0 : ∀ i s, inv i [] s → k s = R i [] s) (h1 : ∀ i x l s nx, inv i (x :: l) s → (∀ s', inv (i + 1) l s' → nx s' = R (i + 1) l s') → f i x s nx k = R i (x :: l) s) :
  ∀ (l : List α) (i : Nat) (s : S), inv i l s → forL l i f s k = R i l s
 | [], i, s, h => h0 i s h
 | x :: l, i, s, h => h1 i x l s _ h fun s' hs => forL_run inv R h0 h1 l (i + 1) s' hs
theorem loopN_run {f : S → (S → Option Z) → (S → Option Z) → Option Z} {k : S → Option Z} (inv : S → Prop) (mu : S → Nat) (R : S → Option Z)
  (h : ∀ s nx, inv s → (∀ s', inv s' → mu s' < mu s → nx s' = R s') → f s nx k = R s) : ∀ (N : Nat) (s : S), inv s → mu s < N → loopN N f s k = R s
 | 0, s, _, hm => by omega
 | N + 1, s, hi, hm => by
  unfold loopN
  exact h s _ hi fun s' hs' hlt => loopN_run inv mu R h N s' hs' (by omega)
theorem forC_run {f : Nat → S → (S → Option Z) → (S → Option Z) → Option Z} {k : S → Option Z} (n : Nat) (inv : Nat → S → Prop) (R : Nat → S → Option Z)
  (h0 : ∀ s, inv n s → k s = R n s) (h1 : ∀ i s nx, i < n → inv i s → (∀ s', inv (i + 1) s' → nx s' = R (i + 1) s') → f i s nx k = R i s) :
  ∀ (m i : Nat) (s : S), m + i = n → inv i s → forC m i f s k = R i s
 | 0, i, s, e, h => by
  obtain rfl : i = n := by omega
  exact h0 s h
 | m + 1, i, s, e, h => by
  unfold forC
  exact h1 i s _ (by omega) h fun s' hs => forC_run n inv R h0 h1 m (i + 1) s' (by omega) hs
theorem condN (c : Bool) (x y : Z) : (bif c then x else y) = bif !c then y else x := by cases c <;> rfl
theorem bif_t {c : Bool} (h : c = true) (x y : Z) : (bif c then x else y) = x := by rw [h]; rfl
theorem bif_f {c : Bool} (h : c = false) (x y : Z) : (bif c then x else y) = y := by rw [h]; rfl
end
theorem wrapS {n : Int} (h1 : -9223372036854775808 ≤ n) (h2 : n ≤ 9223372036854775807) : IntKind.i64.wrap n = n := wrap64 h1 h2
theorem wrapN (n : Nat) (h : n ≤ 9223372036854775807) : IntKind.i64.wrap (n : Int) = n := wrap64 (by omega) (by omega)
theorem wrap1 (i : Nat) (h : i < 9223372036854775807) : IntKind.i64.wrap ((i : Int) + 1) = ((i + 1 : Nat) : Int) := by rw [wrapS (by omega) (by omega)]; rfl
theorem wrapm1 (i : Nat) (h0 : 0 < i) (h : i < 9223372036854775807) : IntKind.i64.wrap ((i : Int) - 1) = ((i - 1 : Nat) : Int) := by rw [wrapS (by omega) (by omega)]; omega
theorem fuel_ge : 1099511627776 ≤ Fuel := Nat.le_refl _
theorem wrapU (n : Nat) (h : n < 18446744073709551616) : IntKind.u64.wrap (n : Int) = n := by
 unfold IntKind.wrap
 simp only [IntKind.bits, IntKind.signed, Bool.false_and, Bool.false_eq_true, if_false]
 omega
theorem wrapU8 (n : Int) : IntKind.u8.wrap n = n % 256 := by
 unfold IntKind.wrap
 simp only [IntKind.bits, IntKind.signed, Bool.false_and, Bool.false_eq_true, if_false]
 omega
theorem wrapU_range (n : Int) : ∃ m : Nat, IntKind.u64.wrap n = m ∧ m < 18446744073709551616 := by
 refine ⟨(n % 18446744073709551616).toNat, ?_, by omega⟩
 unfold IntKind.wrap
 simp only [IntKind.bits, IntKind.signed, Bool.false_and, Bool.false_eq_true, if_false]
 omega
theorem shr_eq (n c : Nat) (k : IntKind) (hc : c ≤ k.bits) : Int.fdiv (n : Int) (2 ^ (shI k (c : Int))) = ((n / 2 ^ c : Nat) : Int) := by
 have : shI k (c : Int) = c := by unfold shI; simp; omega
 rw [this, Int.fdiv_eq_ediv_of_nonneg _ (Int.le_of_lt (Int.pow_pos (by decide)))]
 rw [Int.natCast_ediv, Int.natCast_pow]; rfl
theorem and_mask (n c m : Nat) (h : n < 18446744073709551616) (hm : m = 2 ^ c - 1) (hc : c < 64) : bitsI .and .u64 (n : Int) (m : Int) = ((n % 2 ^ c : Nat) : Int) := by
 subst hm
 have h1 : 2 ^ c ≤ 2 ^ 63 := Nat.pow_le_pow_right (by decide) (by omega)
 show IntKind.u64.wrap (((BitVec.ofInt 64 (n : Int) &&& BitVec.ofInt 64 ((2 ^ c - 1 : Nat) : Int)).toNat : Nat) : Int) = _
 rw [BitVec.toNat_and, BitVec.toNat_ofInt, BitVec.toNat_ofInt]
 have e1 : ((n : Int) % ((2 ^ 64 : Nat) : Int)).toNat = n := by omega
 have e2 : (((2 ^ c - 1 : Nat) : Int) % ((2 ^ 64 : Nat) : Int)).toNat = 2 ^ c - 1 := by omega
 rw [e1, e2, Nat.and_two_pow_sub_one_eq_mod]
 exact wrapU _ (Nat.lt_of_le_of_lt (Nat.mod_le _ _) h)
theorem forL_fold {Z S α : Type} (g : S → α → S) (k : S → Option Z) : ∀ (l : List α) (i : Nat) (s : S), forL l i (fun _ c s nx _ => nx (g s c)) s k = k (l.foldl g s)
 | [], _, _ => rfl
 | x :: l, i, s => by
  unfold forL
  exact forL_fold g k l (i + 1) (g s x)
theorem set_map_range {α : Type} (n i : Nat) (f : Nat → α) (v : α) : ((List.range n).map f).set i v = (List.range n).map (fun j => if j = i then v else f j) := by
 apply List.ext_getElem
 ·simp
 ·intro j h1 h2
  simp only [List.getElem_set, List.getElem_map, List.getElem_range]
  by_cases h : i = j
  ·subst h; simp
  ·rw [if_neg h, if_neg (Ne.symm h)]
theorem strOf_map {α : Type} (l : List α) (f : α → UInt8) : Go.Vc.strOf (l.map fun x => ((f x).toNat : Int)) = l.map f := by
 unfold Go.Vc.strOf
 simp
def HXs : Str := [48, 49, 50, 51, 52, 53, 54, 55, 56, 57, 97, 98, 99, 100, 101, 102]
def D36 : Str := [48, 49, 50, 51, 52, 53, 54, 55, 56, 57, 97, 98, 99, 100, 101, 102, 103, 104, 105, 106, 107, 108, 109, 110, 111, 112, 113, 114, 115, 116, 117, 118, 119, 120, 121, 122]
def dg (n : Nat) : UInt8 := HXs.getD n 0
def hx : Nat → Nat → Str
 | 0, _ => []
 | k + 1, n => hx k (n / 16) ++ [dg (n % 16)]
def hashI (h : Int) (c : UInt8) : Int := IntKind.u64.wrap ((bitsI .xor .u64 h (IntKind.u64.wrap (c.toNat : Int))) * 1099511628211)
def hashZ (s : Str) : Int := s.foldl hashI 14695981039346656037
def sumS (s : Str) : Str := hx 16 (hashZ s).toNat
theorem hashZ_nat (s : Str) : ∃ n : Nat, hashZ s = n ∧ n < 18446744073709551616 := by
 have : ∀ (s : Str) (h : Int), (∃ n : Nat, h = n ∧ n < 18446744073709551616) → ∃ n : Nat, s.foldl hashI h = n ∧ n < 18446744073709551616 := by
  intro s
  induction s with
  | nil => exact fun h hh => hh
  | cons c s ih => exact fun h _ => ih _ (wrapU_range _)
 exact this s _ ⟨14695981039346656037, rfl, by decide⟩
theorem hx_length : ∀ (k n : Nat), (hx k n).length = k
 | 0, _ => rfl
 | k + 1, n => by simp [hx, hx_length k]
theorem sumS_length (s : Str) : (sumS s).length = 16 := hx_length _ _
theorem dg_d36 : ∀ m : Fin 16, D36.getD m.val 0 = dg m.val := by decide
theorem idx_hx {Z : Type} (m : Nat) (h : m < 16) (k : Int → Option Z) : idxS HXs (m : Int) k = k ((dg m).toNat : Int) := by
 rw [idxS_eq (by simpa [HXs] using h)]
 simp only [dg, List.getD_eq_getElem?_getD, List.getElem?_eq_getElem (show m < HXs.length by simpa [HXs] using h), Option.getD_some]
theorem idx_d36 {Z : Type} (m : Nat) (h : m < 16) (k : Int → Option Z) : idxS D36 (m : Int) k = k ((dg m).toNat : Int) := by
 have hl : m < D36.length := by simp [D36]; omega
 rw [idxS_eq hl, ← dg_d36 ⟨m, h⟩]
 simp only [List.getD_eq_getElem?_getD, List.getElem?_eq_getElem hl, Option.getD_some]
theorem hx16 (n : Nat) : (List.range 16).map (fun j => dg (n / 2 ^ (60 - 4 * j) % 16)) = hx 16 n := by
 simp only [hx, List.range, List.range.loop, List.map_cons, List.map_nil, Nat.div_div_eq_div_mul, List.nil_append, List.cons_append]
 simp
theorem disk_SumOf_eq (s : Str) : disk_SumOf s = some (sumS s) := by
 obtain ⟨n, hn, hlt⟩ := hashZ_nat s
 unfold disk_SumOf
 obtain ⟨N, hN⟩ : ∃ N, Fuel = N := ⟨_, rfl⟩
 have hF : 1099511627776 ≤ N := hN ▸ fuel_ge
 rw [hN]
 show forL s 0 (fun _ c h nx _ => nx (hashI h c)) 14695981039346656037 _ = _
 rw [forL_fold]
 show jp _ (fun k_27 => loopN N _ _ _) = _
 rw [show s.foldl hashI 14695981039346656037 = (n : Int) from hn]
 unfold jp
 let arr := fun i : Nat => (List.range 16).map fun j => if j < i then ((dg (n / 2 ^ (60 - 4 * j) % 16)).toNat : Int) else 0
 refine (loopN_run (fun s => ∃ i : Nat, s.1 = (i : Int) ∧ i ≤ 16 ∧ s.2 = arr i) (fun s => 16 - s.1.toNat) (fun _ => some (sumS s)) ?_ N _ ⟨0, rfl, by omega, ?_⟩ (by show 16 - Int.toNat 0 < N; simp; omega)).trans rfl
 ·rintro ⟨t, o⟩ nx ⟨i, h1, hi, h2⟩ hnx
  obtain rfl : t = i := h1
  obtain rfl : o = arr i := h2
  simp only [List.length_replicate]
  by_cases h : i < 16
  ·rw [bif_t (decide_eq_true (by omega))]
   have e1 : IntKind.i64.wrap (60 - IntKind.i64.wrap (4 * (i : Int))) = ((60 - 4 * i : Nat) : Int) := by
    rw [wrapS (n := 4 * (i : Int)) (by omega) (by omega), wrapS (by omega) (by omega)]; omega
   rw [e1, chk_true (by omega), shr_eq _ _ _ (by simp only [IntKind.bits]; omega)]
   rw [show (15 : Int) = ((15 : Nat) : Int) from rfl, and_mask _ 4 15 (Nat.lt_of_le_of_lt (Nat.div_le_self _ _) hlt) (by decide) (by decide)]
   show idxS HXs _ _ = _
   rw [idx_hx _ (Nat.mod_lt _ (by decide)), chk_true (by simp [arr]; omega), wrap1 i (by omega)]
   refine hnx _ ⟨i + 1, rfl, by omega, ?_⟩ ?_
   ·show List.set (arr i) (Int.toNat (i : Int)) _ = _
    rw [Int.toNat_natCast]
    show ((List.range 16).map _).set i _ = (List.range 16).map _
    rw [set_map_range]
    apply List.map_congr_left
    intro j _
    by_cases hj : j = i
    ·subst hj; rw [if_pos rfl, if_pos (by omega)]
    ·rw [if_neg hj]
     by_cases hj' : j < i
     ·rw [if_pos hj', if_pos (by omega)]
     ·rw [if_neg hj', if_neg (by omega)]
   ·show 16 - Int.toNat ((i + 1 : Nat) : Int) < 16 - Int.toNat (i : Int)
    rw [Int.toNat_natCast, Int.toNat_natCast]; omega
  ·rw [bif_f (decide_eq_false (by omega))]
   obtain rfl : i = 16 := by omega
   show some (Go.Vc.strOf (arr 16)) = _
   have : arr 16 = (List.range 16).map fun j => ((dg (n / 2 ^ (60 - 4 * j) % 16)).toNat : Int) := by
    apply List.map_congr_left
    intro j hj
    rw [if_pos (List.mem_range.1 hj)]
   rw [this, strOf_map, hx16]
   unfold sumS
   rw [hn]; rfl
 ·show List.replicate 16 (0 : Int) = _
  apply List.ext_getElem
  ·simp [arr]
  ·intro j h1 h2
   rw [List.getElem_replicate]
   simp only [arr, List.getElem_map, List.getElem_range]
   rfl
def fm : Nat → Nat → Str
 | 0, n => [dg n]
 | k + 1, n => if n < 16 then [dg n] else fm k (n / 16) ++ [dg (n % 16)]
theorem hx_zero : ∀ k : Nat, hx k 0 = List.replicate k 48
 | 0 => rfl
 | k + 1 => by
  show hx k (0 / 16) ++ [dg (0 % 16)] = _
  rw [Nat.zero_div, hx_zero k, List.replicate_succ']; rfl
theorem fm_len : ∀ k n : Nat, 1 ≤ (fm k n).length ∧ (fm k n).length ≤ k + 1
 | 0, n => by simp [fm]
 | k + 1, n => by
  have := fm_len k (n / 16)
  simp only [fm]
  split <;> simp <;> omega
theorem fm_pad : ∀ k n : Nat, n < 16 ^ (k + 1) → List.replicate (k + 1 - (fm k n).length) 48 ++ fm k n = hx (k + 1) n
 | 0, n, h => by
  have : n % 16 = n := Nat.mod_eq_of_lt (by simpa using h)
  simp [fm, hx, this]
 | k + 1, n, h => by
  have hl := fm_len k (n / 16)
  simp only [fm]
  split
  ·rename_i h16
   have e1 : n / 16 = 0 := Nat.div_eq_of_lt h16
   have e2 : n % 16 = n := Nat.mod_eq_of_lt h16
   show _ = hx (k + 1) (n / 16) ++ [dg (n % 16)]
   rw [e1, e2, hx_zero]; rfl
  ·have ih := fm_pad k (n / 16) (by rw [Nat.pow_succ] at h; omega)
   show _ = hx (k + 1) (n / 16) ++ [dg (n % 16)]
   rw [← ih, List.length_append, List.append_assoc]
   congr 2
   simp
theorem tz16 : math_bits_TrailingZeros (IntKind.u64.wrap 16) = some 4 := by decide +kernel
theorem pow16 : internal_strconv_isPowerOfTwo 16 = some true := by decide +kernel
theorem set_drop (l : List Int) (i : Nat) (v : Int) (h : i < l.length) : (l.set i v).drop i = v :: l.drop (i + 1) := by
 rw [List.drop_set]
 simp only [Nat.lt_irrefl, if_false, Nat.sub_self]
 rw [List.drop_eq_getElem_cons h]
 rfl
theorem strOf_cons' (v : UInt8) (l : List Int) : Go.Vc.strOf ((v.toNat : Int) :: l) = v :: Go.Vc.strOf l := by simp [Go.Vc.strOf]
theorem formatBits16 (n : Nat) (h : n < 18446744073709551616) : internal_strconv_formatBits [] (n : Int) 16 false false = some ([], fm 15 n) := by
 unfold internal_strconv_formatBits
 obtain ⟨N, hN⟩ : ∃ N, Fuel = N := ⟨_, rfl⟩
 have hF : 1099511627776 ≤ N := hN ▸ fuel_ge
 rw [hN]
 simp only [pow16, tz16, call_some, jp, cond_true, cond_false, show decide ((16 : Int) < 2) = false from rfl, show decide ((16 : Int) = 10) = false from rfl, show decide ((36 : Int) < 16) = false from rfl, Bool.or_self]
 have hw : IntKind.u64.wrap 16 = 16 := by decide
 have hw4 : IntKind.u64.wrap 4 = ((4 : Nat) : Int) := by decide
 have hw15 : IntKind.u64.wrap (16 - 1) = ((15 : Nat) : Int) := by decide
 rw [hw, hw4, hw15]
 refine (loopN_run (fun s => ∃ m j : Nat, s.1 = (m : Int) ∧ s.2.1 = (j : Int) ∧ j ≤ 65 ∧ 50 ≤ j ∧ m < 16 ^ (j - 49) ∧ s.2.2.length = 65 ∧ fm 15 n = fm (j - 50) m ++ Go.Vc.strOf (s.2.2.drop j)) (fun s => s.2.1.toNat) (fun _ => some ([], fm 15 n)) ?_ N _ ⟨n, 65, rfl, rfl, by omega, by omega, by omega, by simp, by simp [Go.Vc.strOf]⟩ (by show Int.toNat 65 < N; simp; omega))
 rintro ⟨u, i, o⟩ nx ⟨m, j, h1, h2, hj, hj', hm, hl, hf⟩ hnx
 obtain rfl : u = m := h1
 obtain rfl : i = j := h2
 simp only
 simp only at hl hf
 have hmlt : m < 18446744073709551616 := Nat.lt_of_lt_of_le hm (Nat.le_trans (Nat.pow_le_pow_right (by decide) (show j - 49 ≤ 16 by omega)) (by decide))
 have e1 : IntKind.i64.wrap ((j : Int) - 1) = ((j - 1 : Nat) : Int) := wrapm1 j (by omega) (by omega)
 rw [e1]
 by_cases hc : 16 ≤ m
 ·rw [bif_t (decide_eq_true (by omega)), and_mask m 4 15 hmlt (by decide) (by decide)]
  show idxS D36 _ _ = _
  rw [idx_d36 _ (Nat.mod_lt _ (by decide)), chk_true (by omega), chk_true (by omega), shr_eq m 4 .u64 (by decide)]
  have h50 : 50 < j := by
   rcases Nat.lt_or_ge 50 j with h' | h'
   ·exact h'
   ·exfalso
    obtain rfl : j = 50 := by omega
    simp at hm; omega
  refine hnx _ ⟨m / 16, j - 1, rfl, rfl, by omega, by omega, ?_, by simpa using hl, ?_⟩ (by show Int.toNat _ < Int.toNat _; rw [Int.toNat_natCast, Int.toNat_natCast]; omega)
  ·have : 16 ^ (j - 49) = 16 ^ (j - 1 - 49) * 16 := by rw [← Nat.pow_succ]; congr 1; omega
   rw [this] at hm
   omega
  ·rw [hf, Int.toNat_natCast]
   rw [show j - 50 = (j - 1 - 50) + 1 by omega]
   simp only [fm]
   rw [if_neg (by omega), set_drop _ _ _ (by omega), strOf_cons', show j - 1 + 1 = j by omega, List.append_assoc]
   rfl
 ·rw [bif_f (decide_eq_false (by omega))]
  show idxS D36 _ _ = _
  rw [idx_d36 m (by omega), chk_true (by omega)]
  rw [chk_true (by simp only [List.length_set]; omega)]
  rw [Int.toNat_natCast, set_drop _ _ _ (by omega), show j - 1 + 1 = j by omega, List.take_of_length_le (by simp; omega), strOf_cons', hf]
  have : fm (j - 50) m = [dg m] := by
   cases e : j - 50 with
   | zero => rfl
   | succ k => simp only [fm]; rw [if_pos (by omega)]
  rw [this]; rfl
theorem FormatUint16 (n : Nat) (h : n < 18446744073709551616) : strconv_FormatUint (n : Int) 16 = some (fm 15 n) := by
 unfold strconv_FormatUint internal_strconv_FormatUint
 rw [formatBits16 n h]; rfl
theorem repeat0 : ∀ c : Fin 17, strings_Repeat [48] (c.val : Int) = some (List.replicate c.val 48) := by
 intro c
 obtain ⟨c, hc⟩ := c
 simp only
 unfold strings_Repeat
 obtain ⟨N, hN⟩ : ∃ N, Fuel = N := ⟨_, rfl⟩
 rw [hN]
 clear hN
 by_cases h0 : c = 0
 ·subst h0; rfl
 by_cases h1 : c = 1
 ·subst h1; rfl
 rw [bif_f (decide_eq_false (by omega)), bif_f (decide_eq_false (by omega))]
 have hm : ∀ c : Fin 17, math_bits_Mul (IntKind.u64.wrap (([48] : Str).length : Int)) (IntKind.u64.wrap (c.val : Int)) = some (0, (c.val : Int)) := by decide +kernel
 simp only [jp_eq]
 rw [bif_f (decide_eq_false (by omega)), hm ⟨c, hc⟩]
 simp only [call_some]
 rw [show decide ((0 : Int) < 0) = false from rfl, bif_f (by simp; omega)]
 rw [bif_f (by simp)]
 show idxS [48] ((0 : Nat) : Int) _ = _
 rw [idxS_eq (by simp)]
 simp only [List.getElem_cons_zero]
 rw [show decide (((48 : UInt8).toNat : Int) = 32) = false from rfl, show decide (((48 : UInt8).toNat : Int) = 45) = false from rfl, show decide (((48 : UInt8).toNat : Int) = 48) = true from rfl, cond_false, cond_false, cond_true, cond_true]
 have hp : ∀ (g : Bool) (a b : Str) (k : Bool → Option Str), strings_HasPrefix a b = some false → callG g (strings_HasPrefix a b) false k = k false := by
  intro g a b k h
  rw [h, callG_some]
  cases g <;> rfl
 have ew : IntKind.i64.wrap (c : Int) = c := wrapN c (by omega)
 rw [hp _ _ _ _ (by decide +kernel), Bool.and_false, cond_false, hp _ _ _ _ (by decide +kernel), Bool.and_false, cond_false, ew]
 rw [show strings_HasPrefix _ [48] = some true from by decide +kernel, callG_some, decide_eq_true (by omega : (c : Int) ≤ 64)]
 simp only [Bool.and_true, cond_true]
 have hk : ∀ c : Fin 17, List.take (Int.toNat (c.val : Int)) ([48, 48, 48, 48, 48, 48, 48, 48, 48, 48, 48, 48, 48, 48, 48, 48, 48, 48, 48, 48, 48, 48, 48, 48, 48, 48, 48, 48, 48, 48, 48, 48, 48, 48, 48, 48, 48, 48, 48, 48, 48, 48, 48, 48, 48, 48, 48, 48, 48, 48, 48, 48, 48, 48, 48, 48, 48, 48, 48, 48, 48, 48, 48, 48] : Str) = List.replicate c.val 48 := by decide
 rw [chk_true (by simp; omega), hk ⟨c, hc⟩]
theorem R_SumOf_eq (s : Str) : R_SumOf s = some (sumS s) := by
 obtain ⟨n, hn, hlt⟩ := hashZ_nat s
 unfold R_SumOf
 show jp _ (fun k => forL s 0 (fun _ c h nx _ => nx (hashI h c)) 14695981039346656037 _) = _
 simp only [jp_eq]
 rw [forL_fold]
 rw [show s.foldl hashI 14695981039346656037 = (n : Int) from hn, FormatUint16 n hlt]
 have hl := fm_len 15 n
 simp only [call_some]
 rw [show IntKind.i64.wrap (16 - ((fm 15 n).length : Int)) = ((16 - (fm 15 n).length : Nat) : Int) by rw [wrapS (by omega) (by omega)]; omega]
 have := repeat0 ⟨16 - (fm 15 n).length, by omega⟩
 simp only at this
 rw [this, call_some, chk_true (by simp; omega), fm_pad 15 n (by omega)]
 unfold sumS
 rw [hn]; rfl
theorem u8all {p : UInt8 → Prop} (h : ∀ n : Fin 256, p (UInt8.ofNat n.val)) (c : UInt8) : p c := by
 have := h ⟨c.toNat, c.toNat_lt⟩
 simpa using this
def isHx (c : UInt8) : Bool := (decide (48 ≤ (c.toNat : Int)) && decide ((c.toNat : Int) ≤ 57)) || (decide (97 ≤ (c.toNat : Int)) && decide ((c.toNat : Int) ≤ 102))
def isS (s : Str) : Bool := s.all isHx && decide ((s.length : Int) = 16)
def hv1 (c : UInt8) : Nat := if c.toNat ≤ 57 then c.toNat - 48 else c.toNat - 87
def hv (s : Str) : Nat := s.foldl (fun n c => n * 16 + hv1 c) 0
theorem hv1_lt (c : UInt8) (h : isHx c = true) : hv1 c < 16 := by
 revert c
 exact u8all (by decide +kernel)
theorem hv_take (s : Str) (i : Nat) (h : i < s.length) : hv (s.take (i + 1)) = hv (s.take i) * 16 + hv1 s[i] := by
 unfold hv
 rw [List.take_succ_eq_append_getElem h, List.foldl_append]
 rfl
theorem hv_lt (s : Str) (hs : ∀ c ∈ s, isHx c = true) : ∀ i, i ≤ s.length → hv (s.take i) < 16 ^ i
 | 0, _ => by simp [hv]
 | i + 1, h => by
  have ih := hv_lt s hs i (by omega)
  have h1 := hv1_lt s[i] (hs _ (List.getElem_mem _))
  rw [hv_take s i (by omega), Nat.pow_succ]
  omega
theorem delta_isSum_eq (s : Str) : delta_isSum s = some (isS s) := by
 unfold delta_isSum
 rw [jp_eq]
 refine (forL_all (z := false) (q := isHx) (fun i x nx k => ?_) _ s 0).trans ?_
 ·rw [condN, Bool.not_not]; rfl
 ·unfold isS
  cases s.all isHx <;> rfl
theorem R_IsSum_eq (s : Str) : R_IsSum s = some (isS s) := by
 unfold R_IsSum
 rw [jp_eq]
 refine (forL_all (z := false) (q := isHx) (fun i x nx k => ?_) _ s 0).trans ?_
 ·rw [condN]
  congr 1
  revert x
  exact u8all (by decide +kernel)
 ·unfold isS
  cases s.all isHx <;> rfl
theorem bytesOf_getD (s : Str) (i : Nat) (h : i < s.length) : (bytesOf s).getD i 0 = ((s[i]).toNat : Int) := by
 unfold bytesOf
 rw [List.getD_eq_getElem?_getD, List.getElem?_map, List.getElem?_eq_getElem h]
 rfl
theorem lowA : ∀ c : UInt8, isHx c = true → (decide (48 ≤ (c.toNat : Int)) && decide ((c.toNat : Int) ≤ 57)) = true ∧ IntKind.u8.wrap ((c.toNat : Int) - 48) = hv1 c ∨
  (decide (48 ≤ (c.toNat : Int)) && decide ((c.toNat : Int) ≤ 57)) = false ∧ internal_strconv_lower (c.toNat : Int) = some (c.toNat : Int) ∧ decide (97 ≤ (c.toNat : Int)) = true ∧ decide ((c.toNat : Int) ≤ 122) = true ∧ IntKind.u8.wrap ((IntKind.u8.wrap ((c.toNat : Int) - 97)) + 10) = hv1 c :=
 u8all (by decide +kernel)
theorem wrapC4 : IntKind.u64.wrap ((IntKind.u64.wrap (1 * 2 ^ (shI .u64 64))) - 1) = 18446744073709551615 := by decide +kernel
theorem pow16_le (i : Nat) (h : i ≤ 15) : 16 ^ i ≤ 1152921504606846976 := Nat.le_trans (Nat.pow_le_pow_right (by decide) h) (by decide)
theorem ParseUint_hex (s : Str) (h : isS s = true) : strconv_ParseUint s 16 64 = some (hv s : Int) := by
 unfold isS at h
 rw [Bool.and_eq_true, List.all_eq_true, decide_eq_true_eq] at h
 obtain ⟨hs, hl⟩ := h
 have hl : s.length = 16 := by omega
 unfold strconv_ParseUint internal_strconv_ParseUint
 rw [bif_f (decide_eq_false (by intro e; rw [e] at hl; simp at hl)), jp_eq]
 dsimp only
 rw [bif_t (c := decide ((2 : Int) ≤ 16) && decide ((16 : Int) ≤ 36)) rfl, jp_eq]
 dsimp only
 rw [bif_f (c := decide ((64 : Int) = 0)) rfl, bif_f (c := decide ((64 : Int) < 0) || decide ((64 : Int) < 64)) rfl, jp_eq]
 dsimp only
 rw [bif_f (c := decide ((16 : Int) = 10)) rfl, bif_t (c := decide ((16 : Int) = 16)) rfl]
 have c1 : IntKind.u64.wrap 64 = 64 := by decide
 have c2 : IntKind.u64.wrap 16 = 16 := by decide
 have c3 : IntKind.u8.wrap 16 = 16 := by decide
 have c4 := wrapC4
 rw [c1, chk_true (by omega), c2, c3, c4, jp_eq]
 dsimp only
 have hdec : decide ((16 : Int) = 0) = false := rfl
 rw [forC_run s.length (fun i st => i ≤ s.length ∧ st.1 = false ∧ st.2 = ((hv (s.take i) : Nat) : Int)) (fun _ _ => some (hv s : Int)) ?_ ?_ s.length 0 _ rfl ⟨by omega, rfl, by simp [hv]⟩]
 ·rfl
 ·rintro ⟨b, n⟩ ⟨_, h1, h2⟩
  obtain rfl : b = false := h1
  obtain rfl : n = _ := h2
  simp only [callG_false, Bool.false_and, cond_false, List.take_length]
 ·rintro i ⟨b, n⟩ nx hi ⟨_, h1, h2⟩ hnx
  obtain rfl : b = false := h1
  obtain rfl : n = _ := h2
  have hc := hs s[i] (List.getElem_mem _)
  have hlt := hv_lt s hs i (by omega)
  have hd := hv1_lt _ hc
  replace hlt : hv (s.take i) < 1152921504606846976 := Nat.lt_of_lt_of_le hlt (pow16_le i (by omega))
  have fin : ∀ d : Int, d = hv1 s[i] → (bif decide ((16 : Int) ≤ d) then (none : Option Int) else
    bif decide ((1152921504606846976 : Int) ≤ ((hv (s.take i) : Nat) : Int)) then none else
    bif (decide ((IntKind.u64.wrap ((IntKind.u64.wrap (((hv (s.take i) : Nat) : Int) * 16)) + (IntKind.u64.wrap d))) < (IntKind.u64.wrap (((hv (s.take i) : Nat) : Int) * 16))) || decide ((18446744073709551615 : Int) < (IntKind.u64.wrap ((IntKind.u64.wrap (((hv (s.take i) : Nat) : Int) * 16)) + (IntKind.u64.wrap d))))) then none else
    nx (false, IntKind.u64.wrap ((IntKind.u64.wrap (((hv (s.take i) : Nat) : Int) * 16)) + (IntKind.u64.wrap d)))) = some (hv s : Int) := by
   rintro d rfl
   have e1 : IntKind.u64.wrap (((hv (s.take i) : Nat) : Int) * 16) = ((hv (s.take i) * 16 : Nat) : Int) := by
    rw [show ((hv (s.take i) : Nat) : Int) * 16 = ((hv (s.take i) * 16 : Nat) : Int) by omega]
    exact wrapU _ (by omega)
   have e2 : IntKind.u64.wrap (hv1 s[i] : Int) = (hv1 s[i] : Int) := wrapU _ (by omega)
   have e3 : IntKind.u64.wrap (((hv (s.take i) * 16 : Nat) : Int) + (hv1 s[i] : Int)) = ((hv (s.take i) * 16 + hv1 s[i] : Nat) : Int) := by
    rw [show ((hv (s.take i) * 16 : Nat) : Int) + (hv1 s[i] : Int) = ((hv (s.take i) * 16 + hv1 s[i] : Nat) : Int) by omega]
    exact wrapU _ (by omega)
   rw [e1, e2, e3]
   rw [bif_f (decide_eq_false (by omega)), bif_f (decide_eq_false (by omega)), bif_f (by rw [decide_eq_false (by omega), decide_eq_false (by omega)]; rfl)]
   exact hnx _ ⟨by omega, rfl, by rw [hv_take s i hi]⟩
  rw [jp_eq]
  simp only [hdec, Bool.and_false, cond_false, bytesOf_getD s i hi]
  rcases lowA _ hc with ⟨h1, h2⟩ | ⟨h1, h2, h3, h4, h5⟩
  ·rw [h1, cond_true]; exact fin _ h2
  ·rw [h1, cond_false, h2]
   simp only [call_some, callG_some, h3, h4, Bool.and_self, cond_true]
   exact fin _ h5
def grp : Nat → Nat → Str
 | 0, n => [UInt8.ofNat (n % 128)]
 | k + 1, n => if n < 128 then [UInt8.ofNat n] else UInt8.ofNat (n % 128 + 128) :: grp k (n / 128)
def grpS (n : Int) : Str := grp 3 n.toNat
theorem grp_len : ∀ k n, (grp k n).length ≤ k + 1
 | 0, n => by simp [grp]
 | k + 1, n => by
  have := grp_len k (n / 128)
  simp only [grp]
  split <;> simp
  omega
theorem grpS_len (n : Int) : (grpS n).length ≤ 4 := grp_len _ _
theorem or128 : ∀ m : Fin 128, bitsI .or .i64 (m.val : Int) 128 = ((m.val + 128 : Nat) : Int) := by decide +kernel
theorem or128u : ∀ m : Fin 128, bitsI .or .u8 (IntKind.u8.wrap (m.val : Int)) 128 = ((m.val + 128 : Nat) : Int) := by decide +kernel
theorem and_maskS (n c m : Nat) (h : n < 9223372036854775808) (hm : m = 2 ^ c - 1) (hc : c < 63) : bitsI .and .i64 (n : Int) (m : Int) = ((n % 2 ^ c : Nat) : Int) := by
 subst hm
 have h1 : 2 ^ c ≤ 2 ^ 62 := Nat.pow_le_pow_right (by decide) (by omega)
 show IntKind.i64.wrap (((BitVec.ofInt 64 (n : Int) &&& BitVec.ofInt 64 ((2 ^ c - 1 : Nat) : Int)).toNat : Nat) : Int) = _
 rw [BitVec.toNat_and, BitVec.toNat_ofInt, BitVec.toNat_ofInt]
 have e1 : ((n : Int) % ((2 ^ 64 : Nat) : Int)).toNat = n := by omega
 have e2 : (((2 ^ c - 1 : Nat) : Int) % ((2 ^ 64 : Nat) : Int)).toNat = 2 ^ c - 1 := by omega
 rw [e1, e2, Nat.and_two_pow_sub_one_eq_mod]
 have := Nat.mod_le n (2 ^ c)
 exact wrapN _ (by omega)
theorem and127 (n : Nat) (h : n < 9223372036854775808) : bitsI .and .i64 (n : Int) 127 = ((n % 128 : Nat) : Int) := and_maskS n 7 127 h rfl (by decide)
theorem shr7 (n : Nat) : Int.fdiv (n : Int) (2 ^ (shI .i64 7)) = ((n / 128 : Nat) : Int) := shr_eq n 7 .i64 (by decide)
theorem u8ofNat (n : Nat) (h : n < 256) : ((UInt8.ofNat n).toNat : Int) = n := by
 simp; omega
theorem bytesOf_app (a b : Str) : bytesOf (a ++ b) = bytesOf a ++ bytesOf b := List.map_append
theorem putNumber_eq (n : Int) (o : List Int) (h0 : 0 ≤ n) (h1 : n < 268435456) (ho : o.length ≤ 274877906000) : delta_putNumber_i1 n o = some (o ++ bytesOf (grpS n)) := by
 unfold delta_putNumber_i1
 obtain ⟨N, hN⟩ : ∃ N, Fuel = N := ⟨_, rfl⟩
 have hF : 1099511627776 ≤ N := hN ▸ fuel_ge
 rw [hN, jp_eq]
 refine loopN_run (fun s => ∃ m k : Nat, s.1 = (m : Int) ∧ k ≤ 3 ∧ m < 128 ^ (k + 1) ∧ s.2.length + k ≤ 274877906003 ∧ o ++ bytesOf (grpS n) = s.2 ++ bytesOf (grp k m)) (fun s => s.1.toNat) (fun _ => some (o ++ bytesOf (grpS n))) ?_ N _ ⟨n.toNat, 3, by simp; omega, by omega, by omega, by simp; omega, rfl⟩ (by show n.toNat < N; omega)
 rintro ⟨v, q⟩ nx ⟨m, k, hm, hk, hlt, hl, he⟩ hnx
 obtain rfl : v = m := hm
 simp only
 simp only at hl he
 have hb : m < 268435456 := Nat.lt_of_lt_of_le hlt (Nat.le_trans (Nat.pow_le_pow_right (by decide) (show k + 1 ≤ 4 by omega)) (by decide))
 by_cases h : 128 ≤ m
 ·obtain ⟨k', rfl⟩ : ∃ k', k = k' + 1 := by
   rcases k with _ | k'
   ·simp at hlt; omega
   ·exact ⟨k', rfl⟩
  rw [bif_t (decide_eq_true (by omega)), and127 m (by omega)]
  have e := or128 ⟨m % 128, Nat.mod_lt _ (by decide)⟩
  simp only at e
  rw [e, wrapU8, shr7 m, chk_true (by simp; omega)]
  refine hnx _ ⟨m / 128, k', rfl, by omega, ?_, by simp; omega, ?_⟩ (by show Int.toNat _ < Int.toNat _; rw [Int.toNat_natCast, Int.toNat_natCast]; omega)
  ·rw [Nat.pow_succ] at hlt; omega
  ·rw [he]
   simp only [grp]
   rw [if_neg (by omega), List.append_assoc]
   congr 1
 ·rw [bif_f (decide_eq_false (by omega)), wrapU8, chk_true (by simp; omega), he]
  congr 2
  have e : grp k m = [UInt8.ofNat m] := by
   cases k with
   | zero => show [_] = [_]; rw [Nat.mod_eq_of_lt (by omega)]
   | succ k => simp only [grp]; rw [if_pos (by omega)]
  rw [e]
  show _ = [((UInt8.ofNat m).toNat : Int)]
  rw [u8ofNat _ (by omega)]
  congr 1
  omega
theorem groups_eq (n : Int) (h0 : 0 ≤ n) (h1 : n < 268435456) : R_groups n = some (grpS n) := by
 unfold R_groups
 obtain ⟨N, hN⟩ : ∃ N, Fuel = N := ⟨_, rfl⟩
 have hF : 1099511627776 ≤ N := hN ▸ fuel_ge
 rw [hN, jp_eq]
 refine loopN_run (fun s => ∃ m k : Nat, s.1 = (m : Int) ∧ k ≤ 3 ∧ m < 128 ^ (k + 1) ∧ s.2.length + k ≤ 3 ∧ grpS n = s.2 ++ grp k m) (fun s => s.1.toNat) (fun _ => some (grpS n)) ?_ N _ ⟨n.toNat, 3, by simp; omega, by omega, by omega, by simp, rfl⟩ (by show n.toNat < N; omega)
 rintro ⟨v, q⟩ nx ⟨m, k, hm, hk, hlt, hl, he⟩ hnx
 obtain rfl : v = m := hm
 simp only
 simp only at hl he
 have hb : m < 268435456 := Nat.lt_of_lt_of_le hlt (Nat.le_trans (Nat.pow_le_pow_right (by decide) (show k + 1 ≤ 4 by omega)) (by decide))
 by_cases h : 128 ≤ m
 ·obtain ⟨k', rfl⟩ : ∃ k', k = k' + 1 := by
   rcases k with _ | k'
   ·simp at hlt; omega
   ·exact ⟨k', rfl⟩
  rw [bif_t (decide_eq_true (by omega)), and127 m (by omega)]
  have e := or128u ⟨m % 128, Nat.mod_lt _ (by decide)⟩
  simp only at e
  rw [e, shr7 m]
  have es : Go.Vc.strOf [((m % 128 + 128 : Nat) : Int)] = [UInt8.ofNat (m % 128 + 128)] := by simp only [Go.Vc.strOf, List.map_cons, List.map_nil, Int.toNat_natCast]
  rw [es, chk_true (by simp; omega)]
  refine hnx _ ⟨m / 128, k', rfl, by omega, ?_, by simp; omega, ?_⟩ (by show Int.toNat _ < Int.toNat _; rw [Int.toNat_natCast, Int.toNat_natCast]; omega)
  ·rw [Nat.pow_succ] at hlt; omega
  ·rw [he]
   simp only [grp]
   rw [if_neg (by omega), List.append_assoc]
   rfl
 ·rw [bif_f (decide_eq_false (by omega)), wrapU8]
  have es : Go.Vc.strOf [(m : Int) % 256] = [UInt8.ofNat m] := by
   rw [show (m : Int) % 256 = (m : Int) by omega]
   simp only [Go.Vc.strOf, List.map_cons, List.map_nil, Int.toNat_natCast]
  rw [es, chk_true (by simp; omega), he]
  have e : grp k m = [UInt8.ofNat m] := by
   cases k with
   | zero => show [_] = [_]; rw [Nat.mod_eq_of_lt (by omega)]
   | succ k => simp only [grp]; rw [if_pos (by omega)]
  rw [e]
def raw8 (n : Nat) : Str := (List.range 8).map fun i => UInt8.ofNat (n / 2 ^ (56 - 8 * i) % 256)
theorem raw8_len (n : Nat) : (raw8 n).length = 8 := by simp [raw8]
theorem putSum_eq (s : Str) (o : List Int) (hs : isS s = true) (ho : o.length ≤ 274877906000) : delta_putSum_i1 s o = some (o ++ bytesOf (raw8 (hv s))) := by
 unfold delta_putSum_i1
 obtain ⟨N, hN⟩ : ∃ N, Fuel = N := ⟨_, rfl⟩
 have hF : 1099511627776 ≤ N := hN ▸ fuel_ge
 rw [ParseUint_hex s hs, call_some, hN, jp_eq, jp_eq]
 generalize hv s = n
 refine loopN_run (fun st => ∃ j : Nat, j ≤ 8 ∧ st.1 = 56 - 8 * (j : Int) ∧ st.2 = o ++ bytesOf ((raw8 n).take j)) (fun st => (st.1 + 8).toNat) (fun _ => some (o ++ bytesOf (raw8 n))) ?_ N _ ⟨0, by omega, rfl, by simp [bytesOf]⟩ (by show Int.toNat _ < N; simp; omega)
 rintro ⟨v, q⟩ nx ⟨j, hj, hv, hq⟩ hnx
 obtain rfl : v = 56 - 8 * (j : Int) := hv
 obtain rfl : q = _ := hq
 simp only
 by_cases h : j < 8
 ·rw [bif_t (decide_eq_true (by omega)), chk_true (by omega)]
  have e1 : (56 - 8 * (j : Int)) = ((56 - 8 * j : Nat) : Int) := by omega
  have hlen : (bytesOf ((raw8 n).take j)).length ≤ 8 := by rw [bytesOf_length, List.length_take, raw8_len]; omega
  rw [chk_true (by simp only [List.length_append, List.length_cons, List.length_nil]; omega), e1, shr_eq n _ .u64 (by simp only [IntKind.bits]; omega), wrapU8, wrapS (by omega) (by omega)]
  refine hnx _ ⟨j + 1, by omega, by simp only; omega, ?_⟩ (by show Int.toNat _ < Int.toNat _; omega)
  simp only
  rw [List.append_assoc, List.take_succ_eq_append_getElem (by rw [raw8_len]; exact h), bytesOf_app]
  congr 2
  show _ = [(((raw8 n)[j]'(by rw [raw8_len]; exact h)).toNat : Int)]
  simp only [raw8, List.getElem_map, List.getElem_range]
  rw [u8ofNat _ (Nat.mod_lt _ (by decide))]
  congr 1
 ·rw [bif_f (decide_eq_false (by omega))]
  obtain rfl : j = 8 := by omega
  rw [List.take_of_length_le (by rw [raw8_len]; omega)]
theorem rawSum_eq (s : Str) (hs : isS s = true) : R_rawSum s = some (raw8 (hv s)) := by
 unfold R_rawSum
 obtain ⟨N, hN⟩ : ∃ N, Fuel = N := ⟨_, rfl⟩
 have hF : 1099511627776 ≤ N := hN ▸ fuel_ge
 rw [ParseUint_hex s hs, call_some, hN, jp_eq]
 generalize hv s = n
 let arr := fun i : Nat => (List.range 8).map fun j => if j < i then ((UInt8.ofNat (n / 2 ^ (56 - 8 * j) % 256)).toNat : Int) else 0
 refine loopN_run (fun s => ∃ i : Nat, s.1 = (i : Int) ∧ i ≤ 8 ∧ s.2 = arr i) (fun s => 8 - s.1.toNat) (fun _ => some (raw8 n)) ?_ N _ ⟨0, rfl, by omega, ?_⟩ (by show 8 - Int.toNat 0 < N; simp; omega)
 ·rintro ⟨t, o⟩ nx ⟨i, h1, hi, h2⟩ hnx
  obtain rfl : t = i := h1
  obtain rfl : o = arr i := h2
  simp only [List.length_replicate]
  by_cases h : i < 8
  ·rw [bif_t (decide_eq_true (by omega))]
   have e1 : IntKind.i64.wrap (56 - IntKind.i64.wrap (8 * (i : Int))) = ((56 - 8 * i : Nat) : Int) := by
    rw [wrapS (n := 8 * (i : Int)) (by omega) (by omega), wrapS (by omega) (by omega)]; omega
   rw [e1, chk_true (by omega), shr_eq _ _ _ (by simp only [IntKind.bits]; omega), wrapU8, chk_true (by simp [arr]; omega), wrap1 i (by omega)]
   refine hnx _ ⟨i + 1, rfl, by omega, ?_⟩ ?_
   ·show List.set (arr i) (Int.toNat (i : Int)) _ = _
    rw [Int.toNat_natCast]
    show ((List.range 8).map _).set i _ = (List.range 8).map _
    rw [set_map_range]
    apply List.map_congr_left
    intro j _
    by_cases hj : j = i
    ·subst hj; rw [if_pos rfl, if_pos (by omega), u8ofNat _ (Nat.mod_lt _ (by decide))]; omega
    ·rw [if_neg hj]
     by_cases hj' : j < i
     ·rw [if_pos hj', if_pos (by omega)]
     ·rw [if_neg hj', if_neg (by omega)]
   ·show 8 - Int.toNat ((i + 1 : Nat) : Int) < 8 - Int.toNat (i : Int)
    rw [Int.toNat_natCast, Int.toNat_natCast]; omega
  ·rw [bif_f (decide_eq_false (by omega))]
   obtain rfl : i = 8 := by omega
   show some (Go.Vc.strOf (arr 8)) = _
   have : arr 8 = (List.range 8).map fun j => ((UInt8.ofNat (n / 2 ^ (56 - 8 * j) % 256)).toNat : Int) := by
    apply List.map_congr_left
    intro j hj
    rw [if_pos (List.mem_range.1 hj)]
   rw [this, strOf_map]; rfl
 ·show List.replicate 8 (0 : Int) = _
  apply List.ext_getElem
  ·simp [arr]
  ·intro j h1 h2
   rw [List.getElem_replicate]
   simp only [arr, List.getElem_map, List.getElem_range]
   rfl
theorem dg_hx : ∀ m : Fin 16, isHx (dg m.val) = true := by decide +kernel
theorem hx_all : ∀ k n, ∀ c ∈ hx k n, isHx c = true
 | 0, _, c, h => by cases h
 | k + 1, n, c, h => by
  rcases List.mem_append.1 h with h | h
  ·exact hx_all k _ c h
  ·obtain rfl := List.mem_singleton.1 h
   exact dg_hx ⟨n % 16, Nat.mod_lt _ (by decide)⟩
theorem isS_sumS (s : Str) : isS (sumS s) = true := by
 unfold isS
 rw [Bool.and_eq_true, List.all_eq_true, decide_eq_true_eq, sumS_length]
 exact ⟨hx_all _ _, rfl⟩
theorem strOf_bytes (s : Str) : Go.Vc.strOf (bytesOf s) = s := strOf_bytesOf s
theorem join0 (l : List Str) (hl : 0 < l.length) (hs : (l.map List.length).sum ≤ 274877906000) : strings_Join l [] = some l.flatten := by
 unfold strings_Join
 simp only [jp_eq, List.length_nil]
 rw [bif_f (decide_eq_false (by omega))]
 rcases l with _ | ⟨a, _ | ⟨b, l⟩⟩
 ·simp at hl
 ·rw [bif_t (decide_eq_true (show (([a] : List Str).length : Int) = 1 from rfl))]
  show idx [a] ((0 : Nat) : Int) _ = _
  rw [idx_eq (by simp)]
  simp
 rw [bif_f (decide_eq_false (by simp; omega)), bif_f (by decide)]
 have sumloop : ∀ (q : List Str) (i : Nat) (n : Nat) (k : Int → Option Str), n + (q.map List.length).sum ≤ 274877906000 →
   forL q i (fun i_62 s_64 n_57 nx_61 k_60 => bif decide ((IntKind.i64.wrap (9223372036854775807 - n_57)) < (s_64.length : Int)) then none else nx_61 (IntKind.i64.wrap (n_57 + (s_64.length : Int)))) (n : Int) k = k ((n + (q.map List.length).sum : Nat) : Int) := by
  intro q
  induction q with
  | nil => intro i n k h; simp [forL]
  | cons x q ih =>
   intro i n k h
   simp only [List.map_cons, List.sum_cons] at h
   unfold forL
   dsimp only
   rw [wrapS (n := 9223372036854775807 - (n : Int)) (by omega) (by omega), bif_f (decide_eq_false (by omega)), show (n : Int) + (x.length : Int) = ((n + x.length : Nat) : Int) by omega, wrapN _ (by omega)]
   rw [ih (i + 1) (n + x.length) k (by omega)]
   simp only [List.map_cons, List.sum_cons, Nat.add_assoc]
 have := sumloop (a :: b :: l) 0 0 (fun n_57 => call (strings_Builder_Grow n_57 []) fun r_17 =>
   idx (a :: b :: l) 0 fun s_18 =>
   call (strings_Builder_WriteString_i1 s_18 []) fun r_19 =>
   chk (0 ≤ 1 ∧ 1 ≤ ((a :: b :: l).length : Int)) <|
   forL (List.drop 1 (a :: b :: l)) 0 (fun i_52 s_54 o1_46 nx_51 k_50 =>
    call (strings_Builder_WriteString_i1 [] o1_46) fun r_55 =>
    call (strings_Builder_WriteString_i1 s_54 r_55.2) fun r_56 =>
    nx_51 r_56.2) r_19.2 (fun o1_46 => call (strings_Builder_String_i1 o1_46) fun r_39 => some r_39)) (by omega)
 refine this.trans ?_
 clear this
 unfold strings_Builder_Grow
 rw [chk_true (by omega), call_some]
 show idx (a :: b :: l) ((0 : Nat) : Int) _ = _
 rw [idx_eq (by simp)]
 have wr : ∀ (o s : Str), o.length + s.length ≤ 274877906944 → strings_Builder_WriteString_i1 s o = some ((s.length : Int), o ++ s) := by
  intro o s h
  unfold strings_Builder_WriteString_i1 strings_Builder_copyCheck_np
  rw [call_some, chk_true (by simp; omega)]
 simp only [List.map_cons, List.sum_cons] at hs
 rw [List.getElem_cons_zero, wr _ _ (by simp; omega), call_some, chk_true (by simp; omega)]
 have wl : ∀ (q : List Str) (i : Nat) (o : Str), o.length + (q.map List.length).sum ≤ 274877906000 →
   forL q i (fun i_52 s_54 o1_46 nx_51 k_50 =>
    call (strings_Builder_WriteString_i1 [] o1_46) fun r_55 =>
    call (strings_Builder_WriteString_i1 s_54 r_55.2) fun r_56 =>
    nx_51 r_56.2) o (fun o1_46 => call (strings_Builder_String_i1 o1_46) fun r_39 => some r_39) = some (o ++ q.flatten) := by
  intro q
  induction q with
  | nil => intro i o h; simp [forL, strings_Builder_String_i1, call_some]
  | cons x q ih =>
   intro i o h
   simp only [List.map_cons, List.sum_cons] at h
   unfold forL
   dsimp only
   rw [wr _ _ (by simp; omega), call_some]
   simp only [List.append_nil]
   rw [wr _ _ (by omega), call_some, ih _ _ (by simp; omega)]
   simp
 refine (wl (List.drop 1 (a :: b :: l)) 0 _ (by simp; omega)).trans ?_
 simp
abbrev Pc := api_Piece
def peL (old : Int) : List Pc → Int → Int × Int
 | [], n => bif decide (65536 < n) then (0, 4) else (n, 0)
 | p :: l, n => bif !decide (p.Data = []) then
   (bif ((!decide (p.At = 0)) || (!decide (p.Long = 0))) then (0, 2) else peL old l (IntKind.i64.wrap (n + (p.Data.length : Int))))
  else
   bif ((((decide (p.At < 0)) || (decide (p.Long < 1))) || (decide (old < p.At))) || (decide (old - p.At < p.Long))) then (0, 3) else peL old l (IntKind.i64.wrap (n + p.Long))
def pe (l : List Pc) (old : Int) : Int × Int :=
 bif ((decide (old < 0)) || (decide (65536 < old))) then (0, 3) else bif decide (5000 < (l.length : Int)) then (0, 4) else peL old l 0
theorem R_PiecesError_eq (l : List Pc) (old : Int) : R_PiecesError l old = some (pe l old) := by
 unfold R_PiecesError pe
 cases h0 : ((decide (old < 0)) || (decide (65536 < old)))
 rotate_left
 ·rfl
 simp only [Bool.or_eq_false_iff, decide_eq_false_iff_not] at h0
 simp only [cond_false]
 cases decide (5000 < (l.length : Int))
 rotate_left
 ·rfl
 simp only [cond_false, jp_eq]
 refine forL_run (fun _ _ _ => True) (fun _ l n => some (peL old l n)) ?_ ?_ l 0 0 trivial
 ·intro i n _; unfold peL; cases decide (65536 < n) <;> rfl
 ·intro i p l n nx _ hnx
  have ih := fun n => hnx n trivial
  unfold peL
  cases decide (p.Data = [])
  ·simp only [Bool.not_false, cond_true]
   cases ((!decide (p.At = 0)) || (!decide (p.Long = 0)))
   ·exact ih _
   ·rfl
  ·simp only [Bool.not_true, cond_false]
   have e : ((((decide (p.At < 0)) || (decide (p.Long < 1))) || (decide (old < p.At))) || (decide ((IntKind.i64.wrap (old - p.At)) < p.Long))) = ((((decide (p.At < 0)) || (decide (p.Long < 1))) || (decide (old < p.At))) || (decide (old - p.At < p.Long))) := by
    by_cases h : p.At < 0 ∨ old < p.At
    ·rcases h with h | h <;> simp [h]
    ·rw [wrapS (by omega) (by omega)]
   rw [e]
   cases ((((decide (p.At < 0)) || (decide (p.Long < 1))) || (decide (old < p.At))) || (decide (old - p.At < p.Long)))
   ·exact ih _
   ·rfl
theorem CheckSteps_eq (l : List Pc) (old : Int) : delta_CheckSteps l old = some (pe l old) := by
 unfold delta_CheckSteps pe delta_outside
 rw [call_some]
 cases h0 : ((decide (old < 0)) || (decide (65536 < old)))
 rotate_left
 ·rfl
 simp only [Bool.or_eq_false_iff, decide_eq_false_iff_not] at h0
 simp only [cond_false]
 cases decide (5000 < (l.length : Int))
 rotate_left
 ·rfl
 simp only [cond_false, jp_eq]
 refine forL_run (fun _ _ _ => True) (fun _ l n => some (peL old l n)) ?_ ?_ l 0 0 trivial
 ·intro i n _; unfold peL; cases decide (65536 < n) <;> rfl
 ·intro i p l n nx _ hnx
  have ih := fun n => hnx n trivial
  unfold peL
  cases decide (p.Data = [])
  ·simp only [Bool.not_false, cond_true]
   cases ((!decide (p.At = 0)) || (!decide (p.Long = 0)))
   ·exact ih _
   ·rfl
  ·simp only [Bool.not_true, cond_false]
   have e : ((((decide (p.At < 0)) || (decide (p.Long < 1))) || (decide (old < p.Long))) || (decide ((IntKind.i64.wrap (old - p.Long)) < p.At))) = ((((decide (p.At < 0)) || (decide (p.Long < 1))) || (decide (old < p.At))) || (decide (old - p.At < p.Long))) := by
    by_cases h1 : p.At < 0
    ·simp [h1]
    by_cases h2 : p.Long < 1
    ·simp [h2]
    by_cases h : old < p.Long
    ·have : old < p.At ∨ old - p.At < p.Long := by omega
     rcases this with h' | h' <;> simp [h, h']
    ·rw [wrapS (by omega) (by omega)]
     have : (old - p.Long < p.At) ↔ (old < p.At ∨ old - p.At < p.Long) := by omega
     rw [decide_eq_false h1, decide_eq_false h2, decide_eq_false h]
     simp only [Bool.or_false, Bool.false_or]
     rw [← Bool.decide_or]
     exact decide_eq_decide.2 this
   rw [e]
   cases ((((decide (p.At < 0)) || (decide (p.Long < 1))) || (decide (old < p.At))) || (decide (old - p.At < p.Long)))
   ·exact ih _
   ·rfl
def Pok (old : Int) (p : Pc) : Prop := (p.Data ≠ [] ∧ p.At = 0 ∧ p.Long = 0) ∨ (p.Data = [] ∧ 0 ≤ p.At ∧ 1 ≤ p.Long ∧ p.At + p.Long ≤ old)
theorem peL_ok (old : Int) : ∀ (l : List Pc) (n : Int), (peL old l n).2 = 0 → ∀ p ∈ l, Pok old p
 | [], _, _, _, hp => by cases hp
 | q :: l, n, h, p, hp => by
  unfold peL at h
  by_cases hd : q.Data = []
  ·rw [decide_eq_true hd] at h
   simp only [Bool.not_true, cond_false] at h
   cases hc : ((((decide (q.At < 0)) || (decide (q.Long < 1))) || (decide (old < q.At))) || (decide (old - q.At < q.Long))) <;> rw [hc] at h
   ·simp only [Bool.or_eq_false_iff, decide_eq_false_iff_not] at hc
    rcases List.mem_cons.1 hp with rfl | hp
    ·exact .inr ⟨hd, by omega, by omega, by omega⟩
    ·exact peL_ok old l _ h p hp
   ·simp at h
  ·rw [decide_eq_false hd] at h
   simp only [Bool.not_false, cond_true] at h
   cases hc : ((!decide (q.At = 0)) || (!decide (q.Long = 0))) <;> rw [hc] at h
   ·simp only [Bool.or_eq_false_iff, Bool.not_eq_false', decide_eq_true_eq] at hc
    rcases List.mem_cons.1 hp with rfl | hp
    ·exact .inl ⟨hd, hc.1, hc.2⟩
    ·exact peL_ok old l _ h p hp
   ·simp at h
theorem pe_ok {l : List Pc} {old : Int} (h : (pe l old).2 = 0) : 0 ≤ old ∧ old ≤ 65536 ∧ l.length ≤ 5000 ∧ ∀ p ∈ l, Pok old p := by
 unfold pe at h
 cases h0 : ((decide (old < 0)) || (decide (65536 < old))) <;> rw [h0] at h
 rotate_left
 ·simp at h
 simp only [cond_false] at h
 cases h1 : decide (5000 < (l.length : Int)) <;> rw [h1] at h
 rotate_left
 ·simp at h
 simp only [Bool.or_eq_false_iff, decide_eq_false_iff_not] at h0 h1
 exact ⟨by omega, by omega, by omega, peL_ok old l 0 h⟩
def de (d : api_Delta) : Int :=
 bif ((((decide (d.Old < 0)) || (decide (65536 < d.Old))) || (decide (d.New < 0))) || (decide (65536 < d.New))) then 3
 else bif !(isS d.OldSum && isS d.NewSum) then 2
 else bif decide ((pe d.Pieces d.Old).2 = 0) then (bif decide ((pe d.Pieces d.Old).1 = d.New) then 0 else 11) else (pe d.Pieces d.Old).2
theorem first2 (a b : Int) : R_first [a, b] = some (bif decide (a = 0) then b else a) := by
 unfold R_first
 rw [jp_eq]
 by_cases h : a = 0
 ·subst h
  by_cases h' : b = 0
  ·subst h'; rfl
  ·simp [forL, h']
 ·simp [forL, h]
theorem when_eq (b : Bool) (e : Int) : R_when b e = some (bif b then e else 0) := by unfold R_when; cases b <;> rfl
theorem DeltaError_eq (d : api_Delta) : R_DeltaError d = some (de d) := by
 unfold R_DeltaError de
 cases ((((decide (d.Old < 0)) || (decide (65536 < d.Old))) || (decide (d.New < 0))) || (decide (65536 < d.New)))
 rotate_left
 ·rfl
 simp only [cond_false, R_IsSum_eq, R_PiecesError_eq, call_some, callG_some, first2, when_eq]
 cases isS d.OldSum <;> simp only [Bool.not_false, Bool.not_true, cond_false, cond_true, Bool.true_or, Bool.false_or, Bool.false_and, Bool.true_and]
 cases isS d.NewSum <;> simp only [Bool.not_false, Bool.not_true, cond_false, cond_true]
 cases decide ((pe d.Pieces d.Old).2 = 0) <;> simp only [cond_false, cond_true]
 cases decide ((pe d.Pieces d.Old).1 = d.New) <;> rfl
theorem Check_eq (d : api_Delta) : delta_Check d = some (de d) := by
 unfold delta_Check de delta_outside
 simp only [call_some, callG_some, delta_isSum_eq, CheckSteps_eq]
 cases ((decide (d.Old < 0)) || (decide (65536 < d.Old)))
 ·simp only [Bool.not_false, cond_true, Bool.false_or]
  cases ((decide (d.New < 0)) || (decide (65536 < d.New)))
  ·simp only [cond_false]
   cases isS d.OldSum <;> simp only [Bool.not_false, Bool.not_true, cond_false, cond_true, Bool.true_or, Bool.false_or, Bool.false_and, Bool.true_and]
   cases isS d.NewSum <;> simp only [Bool.not_false, Bool.not_true, cond_false, cond_true]
   by_cases h : (pe d.Pieces d.Old).2 = 0
   ·rw [decide_eq_true h]
    simp only [cond_true, Bool.true_and]
    cases decide ((pe d.Pieces d.Old).1 = d.New) <;> simp [h]
   ·rw [decide_eq_false h]; rfl
  ·rfl
 ·rfl
theorem de_ok {d : api_Delta} (h : de d = 0) : 0 ≤ d.Old ∧ d.Old ≤ 65536 ∧ 0 ≤ d.New ∧ d.New ≤ 65536 ∧ isS d.OldSum = true ∧ isS d.NewSum = true ∧ d.Pieces.length ≤ 5000 ∧ ∀ p ∈ d.Pieces, Pok d.Old p := by
 unfold de at h
 cases h0 : ((((decide (d.Old < 0)) || (decide (65536 < d.Old))) || (decide (d.New < 0))) || (decide (65536 < d.New))) <;> rw [h0] at h
 rotate_left
 ·simp at h
 simp only [cond_false] at h
 cases h1 : (isS d.OldSum && isS d.NewSum) <;> rw [h1] at h
 ·simp at h
 simp only [Bool.not_true, cond_false] at h
 cases h2 : decide ((pe d.Pieces d.Old).2 = 0) <;> rw [h2] at h
 ·simp only [cond_false] at h
  simp only [decide_eq_false_iff_not] at h2
  exact absurd h h2
 ·simp only [Bool.or_eq_false_iff, decide_eq_false_iff_not] at h0
  obtain ⟨_, _, h3, h4⟩ := pe_ok (of_decide_eq_true h2)
  rw [Bool.and_eq_true] at h1
  exact ⟨by omega, by omega, by omega, by omega, h1.1, h1.2, h3, h4⟩
theorem wr_eq (o s : Str) (h : o.length + s.length ≤ 274877906944) : strings_Builder_WriteString_i1 s o = some ((s.length : Int), o ++ s) := by
 unfold strings_Builder_WriteString_i1 strings_Builder_copyCheck_np
 rw [call_some, chk_true (by simp; omega)]
theorem bs_eq (o : Str) : strings_Builder_String_i1 o = some o := rfl
def pm (a : Str) (p : Pc) : Str := if p.Data = [] then (a.drop p.At.toNat).take p.Long.toNat else p.Data
def made (a : Str) (l : List Pc) : Str := l.flatMap (pm a)
theorem pm_len {a : Str} {p : Pc} (h : Pok a.length p) (hd : p.Data.length ≤ 1048576) (ha : a.length ≤ 65536) : (pm a p).length ≤ 1048576 := by
 unfold pm
 split
 ·simp; omega
 ·exact hd
theorem made_loop {Z : Type} {a : Str} (ha : a.length ≤ 65536) (k : Str → Option Z) (l : List Pc) (hl : ∀ p ∈ l, Pok a.length p ∧ p.Data.length ≤ 1048576) (hn : l.length ≤ 5000) :
  forL l 0 (fun i_38 p_40 o1_31 nx_37 k_36 =>
   bif !decide (p_40.Data = []) then
    call (strings_Builder_WriteString_i1 p_40.Data o1_31) fun r_41 =>
    nx_37 r_41.2
   else
   chk (0 ≤ p_40.At ∧ p_40.At ≤ (a.length : Int) ∧ 0 ≤ IntKind.i64.wrap (p_40.At + p_40.Long) ∧ IntKind.i64.wrap (p_40.At + p_40.Long) ≤ (a.length : Int) ∧ p_40.At ≤ IntKind.i64.wrap (p_40.At + p_40.Long)) <|
   call (strings_Builder_WriteString_i1 (List.take ((IntKind.i64.wrap (p_40.At + p_40.Long)).toNat - p_40.At.toNat) (List.drop p_40.At.toNat a)) o1_31) fun r_43 =>
   nx_37 r_43.2) [] k = k (made a l) := by
 refine forL_run (fun _ r o => (∀ p ∈ r, Pok a.length p ∧ p.Data.length ≤ 1048576) ∧ o.length + r.length * 1048576 ≤ 5242880000) (fun _ r o => k (o ++ made a r)) ?_ ?_ l 0 [] ⟨hl, by simp; omega⟩
 ·intro i o _; simp [made]
 ·intro i p r o nx ⟨hr, ho⟩ hnx
  have hp := hr p (by simp)
  have hpl := pm_len hp.1 hp.2 ha
  simp only [List.length_cons] at ho
  have fin : ∀ s : Str, s = pm a p → (call (strings_Builder_WriteString_i1 s o) fun r_41 => nx r_41.2) = k (o ++ made a (p :: r)) := by
   rintro s rfl
   rw [wr_eq _ _ (by omega), call_some, hnx _ ⟨fun q hq => hr q (by simp [hq]), by simp; omega⟩]
   simp [made]
  by_cases hd : p.Data = []
  ·rw [decide_eq_true hd, Bool.not_true, cond_false]
   rcases hp.1 with h | ⟨_, h1, h2, h3⟩
   ·exact absurd hd h.1
   ·rw [wrapS (by omega) (by omega), chk_true (by omega)]
    apply fin
    unfold pm
    rw [if_pos hd]
    congr 1
    omega
  ·rw [decide_eq_false hd, Bool.not_false, cond_true]
   exact fin _ (by unfold pm; rw [if_neg hd])
theorem Made_eq {a : Str} (ha : a.length ≤ 65536) (l : List Pc) (hl : ∀ p ∈ l, Pok a.length p ∧ p.Data.length ≤ 1048576) (hn : l.length ≤ 5000) : R_Made a l = some (made a l) := by
 unfold R_Made
 rw [jp_eq]
 exact made_loop ha _ l hl hn
def mg (p q : Pc) : Bool := (decide (p.Data = []) && decide (q.Data = []) && decide (q.At = p.At + p.Long)) || (!decide (p.Data = []) && !decide (q.Data = []))
def mrg (p q : Pc) : Pc := ⟨p.At, if p.Data = [] then p.Long + q.Long else p.Long, p.Data ++ q.Data⟩
def jn : Pc → List Pc → List Pc
 | p, [] => [p]
 | p, q :: l => if mg p q = true then jn (mrg p q) l else p :: jn q l
def jns : List Pc → List Pc
 | [] => []
 | p :: l => jn p l
theorem mrg_ok {old : Int} {p q : Pc} (hp : Pok old p) (hq : Pok old q) (h : mg p q = true) : Pok old (mrg p q) := by
 unfold mg at h
 unfold mrg
 by_cases hd : p.Data = []
 ·rw [decide_eq_true hd] at h
  simp only [Bool.true_and, Bool.not_true, Bool.false_and, Bool.or_false, Bool.and_eq_true, decide_eq_true_eq] at h
  rcases hp with hp | ⟨_, h1, h2, h3⟩
  ·exact absurd hd hp.1
  rcases hq with hq | ⟨_, h4, h5, h6⟩
  ·exact absurd h.1 hq.1
  exact .inr ⟨by simp [hd, h.1], h1, by simp only [if_pos hd]; omega, by simp only [if_pos hd]; omega⟩
 ·rcases hp with ⟨_, h1, h2⟩ | hp
  ·exact .inl ⟨by simp [hd], h1, by simp only [if_neg hd]; exact h2⟩
  ·exact absurd hp.1 hd
theorem getD_last (o : List Pc) (q d : Pc) : (o ++ [q]).getD o.length d = q := by simp [List.getD_eq_getElem?_getD]
theorem set_last (o : List Pc) (q x : Pc) : (o ++ [q]).set o.length x = o ++ [x] := by simp [List.set_append]
theorem Joined_eq {old : Int} (h64 : old ≤ 65536) (l : List Pc) (hl : ∀ p ∈ l, Pok old p ∧ p.Data.length ≤ 1048576) (hn : l.length ≤ 5000) : R_Joined l = some (jns l) := by
 unfold R_Joined
 rw [jp_eq]
 refine forL_run (fun _ r o => (∀ p ∈ r, Pok old p ∧ p.Data.length ≤ 1048576) ∧ o.length + r.length ≤ 5000 ∧
  ((o = [] ∧ jns l = jns r) ∨ ∃ o' q, o = o' ++ [q] ∧ jns l = o' ++ jn q r ∧ Pok old q ∧ q.Data.length + r.length * 1048576 ≤ 5242880000)) (fun _ _ _ => some (jns l)) ?_ ?_ l 0 [] ⟨hl, by simpa using hn, .inl ⟨rfl, rfl⟩⟩
 ·rintro i o ⟨_, _, ⟨rfl, h⟩ | ⟨o', q, rfl, h, _⟩⟩
  ·rw [h]; rfl
  ·rw [h]; rfl
 ·rintro i p r o nx ⟨hr, hlen, ho⟩ hnx
  have hr' : ∀ p ∈ r, Pok old p ∧ p.Data.length ≤ 1048576 := fun q hq => hr q (by simp [hq])
  have hp := hr p (by simp)
  simp only [List.length_cons] at hlen
  rcases ho with ⟨rfl, h⟩ | ⟨o', q, rfl, h, hq, hb⟩
  ·have e1 : IntKind.i64.wrap ((([] : List Pc).length : Int) - 1) = -1 := by decide
   simp only [e1, show decide ((0 : Int) ≤ -1) = false from rfl, Bool.false_and, cond_false]
   rw [chk_true (by simp), chk_true (by simp), chk_true (by simp), chk_true (by simp), chk_true (by simp)]
   exact hnx _ ⟨hr', by simp at hlen ⊢; omega, .inr ⟨[], p, rfl, h, hp.1, by omega⟩⟩
  ·simp only [List.length_append, List.length_cons, List.length_nil] at hlen hb
   have e1 : IntKind.i64.wrap (((o' ++ [q]).length : Int) - 1) = (o'.length : Int) := by
    rw [List.length_append, List.length_cons, List.length_nil, wrapS (by omega) (by omega)]; omega
   have hlt : (o'.length : Int) < ((o' ++ [q]).length : Int) := by simp only [List.length_append, List.length_cons, List.length_nil]; omega
   simp only [e1, Int.toNat_natCast, getD_last, set_last, decide_eq_true (show (0 : Int) ≤ (o'.length : Int) by omega), Bool.true_and]
   rw [chk_true (fun _ => ⟨by omega, hlt⟩)]
   have hj : jn q (p :: r) = if mg q p = true then jn (mrg q p) r else q :: jn p r := rfl
   rw [hj] at h
   by_cases hpd : p.Data = []
   ·rw [decide_eq_true hpd]
    simp only [Bool.not_true, Bool.false_and, cond_false, Bool.true_and]
    rw [chk_true (fun _ => ⟨by omega, hlt⟩), chk_true (fun _ => ⟨by omega, hlt⟩), chk_true (fun _ => ⟨by omega, hlt⟩)]
    by_cases hqd : q.Data = []
    ·rw [decide_eq_true hqd, Bool.true_and]
     rcases hq with hq | ⟨_, q1, q2, q3⟩
     ·exact absurd hqd hq.1
     rcases hp.1 with hp1 | ⟨_, p1, p2, p3⟩
     ·exact absurd hpd hp1.1
     rw [wrapS (n := q.At + q.Long) (by omega) (by omega)]
     have hm : mg q p = decide (q.At + q.Long = p.At) := by
      unfold mg
      rw [decide_eq_true hqd, decide_eq_true hpd]
      simp only [Bool.true_and, Bool.not_true, Bool.false_and, Bool.or_false]
      exact decide_eq_decide.2 ⟨fun e => e.symm, fun e => e.symm⟩
     by_cases hc : q.At + q.Long = p.At
     ·rw [decide_eq_true hc, cond_true, chk_true ⟨by omega, hlt⟩, chk_true ⟨by omega, hlt⟩, wrapS (by omega) (by omega)]
      rw [hm, decide_eq_true hc, if_pos rfl] at h
      have e : (⟨q.At, q.Long + p.Long, q.Data⟩ : Pc) = mrg q p := by unfold mrg; rw [if_pos hqd, hpd, List.append_nil]
      rw [e]
      exact hnx _ ⟨hr', by simp; omega, .inr ⟨o', mrg q p, rfl, h, mrg_ok (.inr ⟨hqd, q1, q2, q3⟩) hp.1 (by rw [hm, decide_eq_true hc]), by simp [mrg, hpd, hqd]; omega⟩⟩
     ·rw [decide_eq_false hc, cond_false, chk_true (by simp; omega)]
      rw [hm, decide_eq_false hc, if_neg (by decide)] at h
      exact hnx _ ⟨hr', by simp; omega, .inr ⟨o' ++ [q], p, rfl, by rw [h]; simp, hp.1, by omega⟩⟩
    ·rw [decide_eq_false hqd]
     simp only [Bool.false_and, cond_false]
     rw [chk_true (by simp; omega)]
     have hm : mg q p = false := by unfold mg; rw [decide_eq_false hqd, decide_eq_true hpd]; rfl
     rw [hm, if_neg (by decide)] at h
     exact hnx _ ⟨hr', by simp; omega, .inr ⟨o' ++ [q], p, rfl, by rw [h]; simp, hp.1, by omega⟩⟩
   ·rw [decide_eq_false hpd]
    simp only [Bool.not_false, Bool.true_and, Bool.false_and]
    by_cases hqd : q.Data = []
    ·rw [decide_eq_true hqd]
     simp only [Bool.not_true, cond_false]
     rw [chk_true (fun _ => ⟨by omega, hlt⟩), chk_true (fun _ => ⟨by omega, hlt⟩), chk_true (fun _ => ⟨by omega, hlt⟩), chk_true (by simp; omega)]
     have hm : mg q p = false := by unfold mg; rw [decide_eq_true hqd, decide_eq_false hpd]; rfl
     rw [hm, if_neg (by decide)] at h
     exact hnx _ ⟨hr', by simp; omega, .inr ⟨o' ++ [q], p, rfl, by rw [h]; simp, hp.1, by omega⟩⟩
    ·rw [decide_eq_false hqd]
     simp only [Bool.not_false, cond_true]
     rw [chk_true ⟨by omega, hlt⟩, chk_true (by simp; omega), chk_true ⟨by omega, hlt⟩]
     have hm : mg q p = true := by unfold mg; rw [decide_eq_false hqd, decide_eq_false hpd]; rfl
     rw [hm, if_pos rfl] at h
     have e : (⟨q.At, q.Long, q.Data ++ p.Data⟩ : Pc) = mrg q p := by unfold mrg; rw [if_neg hqd]
     rw [e]
     exact hnx _ ⟨hr', by simp; omega, .inr ⟨o', mrg q p, rfl, h, mrg_ok hq hp.1 hm, by simp [mrg]; omega⟩⟩
theorem joined_eq {old : Int} (h64 : old ≤ 65536) (l : List Pc) (hl : ∀ p ∈ l, Pok old p ∧ p.Data.length ≤ 1048576) (hn : l.length ≤ 5000) : delta_joined l = some (jns l) := by
 unfold delta_joined
 obtain ⟨N, hN⟩ : ∃ N, Fuel = N := ⟨_, rfl⟩
 have hF : 1099511627776 ≤ N := hN ▸ fuel_ge
 rw [hN, jp_eq]
 refine loopN_run (fun s => ∃ i : Nat, s.1 = (i : Int) ∧ i ≤ l.length ∧ s.2.length ≤ i ∧ jns l = s.2 ++ jns (l.drop i)) (fun s => l.length - s.1.toNat) (fun _ => some (jns l)) ?_ N _ ⟨0, rfl, by omega, by simp, by simp⟩ (by show l.length - Int.toNat 0 < N; simp; omega)
 rintro ⟨v, o⟩ nx ⟨i, hv, hi, ho, hj⟩ hnx
 obtain rfl : v = i := hv
 simp only
 simp only at ho hj
 by_cases h : i < l.length
 ·rw [bif_t (decide_eq_true (by omega)), idx_eq h, wrap1 i (by omega), jp_eq]
  have hp := hl l[i] (List.getElem_mem _)
  rw [List.drop_eq_getElem_cons h] at hj
  generalize hpe : l[i] = p at hp hj ⊢
  have hj : jns l = o ++ jn p (l.drop (i + 1)) := hj
  refine loopN_run (fun s => ∃ (j : Nat) (D : Str), s.1 = (j : Int) ∧ i < j ∧ j ≤ l.length ∧ s.2.2.flatten = D ∧ jns l = o ++ jn ⟨p.At, s.2.1, p.Data ++ D⟩ (l.drop j) ∧ Pok old ⟨p.At, s.2.1, p.Data ++ D⟩ ∧ (p.Data = [] → D = []) ∧
   (s.2.2.map List.length).sum = D.length ∧ D.length ≤ j * 1048576 ∧ s.2.2.length ≤ j ∧ (D = [] → s.2.2 = [])) (fun s => l.length - s.1.toNat) (fun _ => some (jns l)) ?_ N _ ⟨i + 1, [], rfl, by omega, by omega, rfl, by simpa using hj, by simpa using hp.1, fun _ => rfl, rfl, by simp, by simp, fun _ => rfl⟩ (by show l.length - Int.toNat ((i + 1 : Nat) : Int) < N; omega)
  rintro ⟨v, g, ds⟩ nx' ⟨j, D, hv, hij, hjl, hD, hjn, hok, hpd, hsum, hDl, hdl, hDn⟩ hnx'
  obtain rfl : v = j := hv
  simp only
  simp only at hD hjn hok hsum hdl hDn
  have hend : (match l.drop j with | [] => True | q :: _ => mg ⟨p.At, g, p.Data ++ D⟩ q = false) → (bif decide (0 < (ds.length : Int)) then
       call (strings_Join ds []) fun r_196 =>
       chk ((p.Data ++ r_196).length ≤ 274877906944) <|
       chk ((o ++ [(api_Piece.mk p.At g (p.Data ++ r_196))]).length ≤ 274877906944) <|
       nx ((j : Int), o ++ [(api_Piece.mk p.At g (p.Data ++ r_196))])
      else
      chk ((o ++ [(api_Piece.mk p.At g p.Data)]).length ≤ 274877906944) <|
      nx ((j : Int), o ++ [(api_Piece.mk p.At g p.Data)])) = some (jns l) := by
   intro hm
   have hjl' : jns l = (o ++ [⟨p.At, g, p.Data ++ D⟩]) ++ jns (l.drop j) := by
    rw [hjn]
    cases hdr : l.drop j with
    | nil => simp [jn, jns]
    | cons q r =>
     rw [hdr] at hm
     simp only at hm
     show o ++ (if mg _ q = true then _ else _) = _
     rw [hm, if_neg (by decide)]
     simp [jns]
   have go : ∀ x : Str, x = p.Data ++ D → nx ((j : Int), o ++ [(api_Piece.mk p.At g x)]) = some (jns l) := by
    rintro x rfl
    exact hnx _ ⟨j, rfl, hjl, by simp; omega, hjl'⟩ (by show l.length - Int.toNat _ < l.length - Int.toNat _; rw [Int.toNat_natCast, Int.toNat_natCast]; omega)
   by_cases hd0 : 0 < ds.length
   ·rw [bif_t (decide_eq_true (by omega)), join0 ds hd0 (by omega), call_some, hD, chk_true (by simp; omega), chk_true (by simp; omega)]
    exact go _ rfl
   ·have : ds = [] := List.length_eq_zero_iff.1 (by omega)
    rw [bif_f (decide_eq_false (by omega)), chk_true (by simp; omega)]
    subst this
    have : D = [] := by rw [← hD]; rfl
    exact go _ (by rw [this, List.append_nil])
  by_cases hlt : j < l.length
  ·rw [bif_t (decide_eq_true (by omega)), idx_eq hlt]
   rw [List.drop_eq_getElem_cons hlt] at hjn hend
   have hq := hl l[j] (List.getElem_mem _)
   generalize hqe : l[j] = q at hq hjn hend ⊢
   have hjq : jn ⟨p.At, g, p.Data ++ D⟩ (q :: l.drop (j + 1)) = if mg ⟨p.At, g, p.Data ++ D⟩ q = true then jn (mrg ⟨p.At, g, p.Data ++ D⟩ q) (l.drop (j + 1)) else ⟨p.At, g, p.Data ++ D⟩ :: jn q (l.drop (j + 1)) := rfl
   rw [hjq] at hjn
   simp only at hend
   by_cases hpe' : p.Data = []
   ·obtain rfl : D = [] := hpd hpe'
    obtain rfl : ds = [] := hDn rfl
    rw [decide_eq_true hpe']
    simp only [Bool.true_and, Bool.not_true, Bool.false_and, cond_false]
    by_cases hqd : q.Data = []
    ·rw [decide_eq_true hqd, Bool.true_and]
     rcases hq.1 with hq1 | ⟨_, q1, q2, q3⟩
     ·exact absurd hqd hq1.1
     rcases hok with hok1 | ⟨_, o1, o2, o3⟩
     ·exact absurd (by simp [hpe']) hok1.1
     simp only at o1 o2 o3
     rw [wrapS (n := p.At + g) (by omega) (by omega)]
     have hm : mg ⟨p.At, g, p.Data ++ []⟩ q = decide (q.At = p.At + g) := by
      unfold mg
      rw [List.append_nil, decide_eq_true hqd, decide_eq_true hpe']
      simp only [Bool.true_and, Bool.not_true, Bool.false_and, Bool.or_false]
     by_cases hc : q.At = p.At + g
     ·rw [decide_eq_true hc, cond_true, wrap1 j (by omega), wrapS (by omega) (by omega)]
      rw [hm, decide_eq_true hc, if_pos rfl] at hjn
      have e : mrg ⟨p.At, g, p.Data ++ []⟩ q = ⟨p.At, g + q.Long, p.Data ++ []⟩ := by unfold mrg; simp [hpe', hqd]
      rw [e] at hjn
      refine hnx' _ ⟨j + 1, [], rfl, by omega, by omega, rfl, hjn, ?_, fun _ => rfl, rfl, by simp, by simp, fun _ => rfl⟩ (by show l.length - Int.toNat _ < l.length - Int.toNat _; rw [Int.toNat_natCast, Int.toNat_natCast]; omega)
      exact .inr ⟨by simp [hpe'], o1, by simp only; omega, by simp only; omega⟩
     ·rw [decide_eq_false hc, cond_false]
      exact hend (by rw [hm, decide_eq_false hc])
    ·rw [decide_eq_false hqd]
     simp only [Bool.false_and, cond_false]
     refine hend ?_
     unfold mg
     rw [List.append_nil, decide_eq_false hqd, decide_eq_true hpe']; rfl
   ·rw [decide_eq_false hpe']
    simp only [Bool.false_and, cond_false, Bool.not_false, Bool.true_and]
    have hne : decide (p.Data ++ D = []) = false := decide_eq_false (by simp [hpe'])
    by_cases hqd : q.Data = []
    ·rw [decide_eq_true hqd]
     simp only [Bool.not_true, cond_false]
     refine hend ?_
     unfold mg
     rw [hne, decide_eq_true hqd]; rfl
    ·rw [decide_eq_false hqd]
     simp only [Bool.not_false, cond_true]
     rw [chk_true (by simp; omega), wrap1 j (by omega)]
     have hm : mg ⟨p.At, g, p.Data ++ D⟩ q = true := by unfold mg; rw [hne, decide_eq_false hqd]; rfl
     rw [hm, if_pos rfl] at hjn
     have e : mrg ⟨p.At, g, p.Data ++ D⟩ q = ⟨p.At, g, p.Data ++ (D ++ q.Data)⟩ := by
      unfold mrg
      rw [if_neg (by simp [hpe']), List.append_assoc]
     have hok2 := mrg_ok hok hq.1 hm
     rw [e] at hjn hok2
     refine hnx' _ ⟨j + 1, D ++ q.Data, rfl, by omega, by omega, by simp [hD], hjn, hok2, fun h => absurd h hpe', by simp [hsum], by simp; omega, by simp; omega, fun h => by simp [hqd] at h⟩ (by show l.length - Int.toNat _ < l.length - Int.toNat _; rw [Int.toNat_natCast, Int.toNat_natCast]; omega)
  ·rw [bif_f (decide_eq_false (by omega))]
   exact hend (by rw [List.drop_eq_nil_of_le (by omega)]; trivial)
 ·rw [bif_f (decide_eq_false (by omega))]
  rw [hj, List.drop_eq_nil_of_le (by omega)]
  simp [jns]
def pp (p : Pc) : Str := if p.Data = [] then [0] ++ grpS p.At ++ grpS p.Long else [1] ++ grpS (p.Data.length : Int) ++ p.Data
def headS (d : api_Delta) : Str := ((((([79, 70, 68, 49] ++ grpS d.Old) ++ grpS d.New) ++ raw8 (hv d.OldSum)) ++ raw8 (hv d.NewSum)) ++ grpS (d.Pieces.length : Int))
def bodyS (d : api_Delta) : Str := headS d ++ d.Pieces.flatMap pp
def printS (d : api_Delta) : Str := bodyS d ++ raw8 (hv (sumS (bodyS d)))
theorem pp_len {p : Pc} (hd : p.Data.length ≤ 1048576) : (pp p).length ≤ 1048600 := by
 have h1 := grpS_len p.At
 have h2 := grpS_len p.Long
 have h3 := grpS_len (p.Data.length : Int)
 unfold pp
 split <;> simp <;> omega
theorem headS_len (d : api_Delta) : (headS d).length ≤ 40 := by
 have h1 := grpS_len d.Old
 have h2 := grpS_len d.New
 have h3 := grpS_len (d.Pieces.length : Int)
 unfold headS
 simp only [List.length_append, raw8_len, List.length_cons, List.length_nil]
 omega
structure Dok (d : api_Delta) : Prop where
 ok : de d = 0
 sm : ∀ p ∈ d.Pieces, p.Data.length ≤ 1048576
theorem Dok.pok {d : api_Delta} (h : Dok d) : ∀ p ∈ d.Pieces, Pok d.Old p ∧ p.Data.length ≤ 1048576 := fun p hp => ⟨(de_ok h.ok).2.2.2.2.2.2.2 p hp, h.sm p hp⟩
theorem bytesOf_len (s : Str) : (bytesOf s).length = s.length := bytesOf_length s
theorem Print_ok {d : api_Delta} (h : Dok d) : delta_Print d = some (printS d, 0) := by
 obtain ⟨o1, o2, n1, n2, s1, s2, l1, hp⟩ := de_ok h.ok
 unfold delta_Print
 rw [Check_eq, call_some, h.ok]
 simp only [decide_true, Bool.not_true, cond_false]
 have g1 := grpS_len d.Old
 have g2 := grpS_len d.New
 have g3 := grpS_len (d.Pieces.length : Int)
 rw [chk_true (by decide), show ([79, 70, 68, 49] : List Int) = bytesOf [79, 70, 68, 49] from rfl]
 rw [putNumber_eq _ _ o1 (by omega) (by rw [bytesOf_len]; decide), call_some, ← bytesOf_app]
 rw [putNumber_eq _ _ n1 (by omega) (by rw [bytesOf_len]; simp; omega), call_some, ← bytesOf_app]
 rw [putSum_eq _ _ s1 (by rw [bytesOf_len]; simp; omega), call_some, ← bytesOf_app]
 rw [putSum_eq _ _ s2 (by rw [bytesOf_len]; simp [raw8_len]; omega), call_some, ← bytesOf_app]
 rw [putNumber_eq _ _ (by omega) (by omega) (by rw [bytesOf_len]; simp [raw8_len]; omega), call_some, ← bytesOf_app, jp_eq]
 have hh := headS_len d
 refine forL_run (fun _ r o => (∀ p ∈ r, Pok d.Old p ∧ p.Data.length ≤ 1048576) ∧ o.length + r.length * 1048600 ≤ 5243000040 ∧ bytesOf (bodyS d) = o ++ bytesOf (r.flatMap pp)) (fun _ _ _ => some (printS d, 0)) ?_ ?_ d.Pieces 0 _ ⟨h.pok, ?_, ?_⟩
 ·rintro i o ⟨_, hl, ho⟩
  simp only [List.flatMap_nil] at ho
  obtain rfl : o = bytesOf (bodyS d) := by rw [ho]; simp [bytesOf]
  dsimp only
  rw [strOf_bytes, disk_SumOf_eq, call_some, putSum_eq _ _ (isS_sumS _) (by simp at hl; omega), call_some, ← bytesOf_app, strOf_bytes]
  rfl
 ·rintro i p r o nx ⟨hr, hl, ho⟩ hnx
  have hpk := hr p (by simp)
  simp only [List.length_cons] at hl
  have hr' : ∀ p ∈ r, Pok d.Old p ∧ p.Data.length ≤ 1048576 := fun q hq => hr q (by simp [hq])
  rw [List.flatMap_cons, bytesOf_app, ← List.append_assoc] at ho
  have g4 := grpS_len p.At
  have g5 := grpS_len p.Long
  have g6 := grpS_len (p.Data.length : Int)
  have ppl := pp_len hpk.2
  have fin : ∀ x, x = o ++ bytesOf (pp p) → nx x = some (printS d, 0) := by
   rintro x rfl
   exact hnx _ ⟨hr', by simp only [List.length_append, bytesOf_len]; omega, ho⟩
  by_cases hd : p.Data = []
  ·rw [decide_eq_true hd, Bool.not_true, cond_false, chk_true (by simp; omega)]
   rcases hpk.1 with hq | ⟨_, q1, q2, q3⟩
   ·exact absurd hd hq.1
   rw [putNumber_eq _ _ q1 (by omega) (by simp; omega), call_some, putNumber_eq _ _ (by omega) (by omega) (by simp only [List.length_append, bytesOf_len, List.length_cons, List.length_nil]; omega), call_some]
   apply fin
   unfold pp
   rw [if_pos hd, bytesOf_app, bytesOf_app]
   simp only [List.append_assoc]; rfl
  ·rw [decide_eq_false hd, Bool.not_false, cond_true, chk_true (by simp; omega)]
   rw [putNumber_eq _ _ (by omega) (by omega) (by simp; omega), call_some, chk_true (by simp only [List.length_append, bytesOf_len, List.length_cons, List.length_nil]; omega)]
   apply fin
   unfold pp
   rw [if_neg hd, bytesOf_app, bytesOf_app]
   simp only [List.append_assoc]; rfl
 ·rw [bytesOf_len]
  have : ((((([79, 70, 68, 49] ++ grpS d.Old) ++ grpS d.New) ++ raw8 (hv d.OldSum)) ++ raw8 (hv d.NewSum)) ++ grpS (d.Pieces.length : Int)).length = (headS d).length := rfl
  omega
 ·rw [← bytesOf_app]; rfl
theorem PrintDelta_ok {d : api_Delta} (h : Dok d) : R_PrintDelta d = some (printS d) := by
 obtain ⟨o1, o2, n1, n2, s1, s2, l1, hp⟩ := de_ok h.ok
 unfold R_PrintDelta
 have g1 := grpS_len d.Old
 have g2 := grpS_len d.New
 have g3 := grpS_len (d.Pieces.length : Int)
 have hh := headS_len d
 rw [groups_eq _ o1 (by omega), call_some, chk_true (by simp; omega)]
 rw [groups_eq _ n1 (by omega), call_some, chk_true (by simp; omega)]
 rw [rawSum_eq _ s1, call_some, chk_true (by simp [raw8_len]; omega)]
 rw [rawSum_eq _ s2, call_some, chk_true (by simp [raw8_len]; omega)]
 rw [groups_eq _ (by omega) (by omega), call_some]
 have hw : ((((([79, 70, 68, 49] ++ grpS d.Old) ++ grpS d.New) ++ raw8 (hv d.OldSum)) ++ raw8 (hv d.NewSum)) ++ grpS (d.Pieces.length : Int)) = headS d := rfl
 rw [hw, chk_true (by omega), wr_eq _ _ (by simp; omega), call_some, List.nil_append, jp_eq]
 refine forL_run (fun _ r o => (∀ p ∈ r, Pok d.Old p ∧ p.Data.length ≤ 1048576) ∧ o.length + r.length * 1048600 ≤ 5243000040 ∧ bodyS d = o ++ r.flatMap pp) (fun _ _ _ => some (printS d)) ?_ ?_ d.Pieces 0 _ ⟨h.pok, by simp only; omega, rfl⟩
 ·rintro i o ⟨_, hl, ho⟩
  simp only [List.flatMap_nil, List.append_nil] at ho
  subst ho
  simp only [bs_eq, call_some, R_SumOf_eq, rawSum_eq _ (isS_sumS _)]
  simp only [List.length_nil] at hl
  rw [chk_true (by rw [List.length_append, raw8_len]; omega)]
  rfl
 ·rintro i p r o nx ⟨hr, hl, ho⟩ hnx
  have hpk := hr p (by simp)
  simp only [List.length_cons] at hl
  have hr' : ∀ p ∈ r, Pok d.Old p ∧ p.Data.length ≤ 1048576 := fun q hq => hr q (by simp [hq])
  rw [List.flatMap_cons, ← List.append_assoc] at ho
  have g4 := grpS_len p.At
  have g5 := grpS_len p.Long
  have g6 := grpS_len (p.Data.length : Int)
  have ppl := pp_len hpk.2
  have fin : ∀ x, x = pp p → (call (strings_Builder_WriteString_i1 x o) fun r => nx r.2) = some (printS d) := by
   rintro x rfl
   rw [wr_eq _ _ (by omega), call_some]
   exact hnx _ ⟨hr', by simp only [List.length_append]; omega, ho⟩
  by_cases hd : p.Data = []
  ·rw [decide_eq_true hd, Bool.not_true, cond_false]
   rcases hpk.1 with hq | ⟨_, q1, q2, q3⟩
   ·exact absurd hd hq.1
   rw [groups_eq _ q1 (by omega), call_some, chk_true (by simp; omega), groups_eq _ (by omega) (by omega), call_some, chk_true (by simp; omega)]
   exact fin _ (by unfold pp; rw [if_pos hd])
  ·rw [decide_eq_false hd, Bool.not_false, cond_true]
   rw [groups_eq _ (by omega) (by omega), call_some, chk_true (by simp; omega), chk_true (by simp; omega)]
   exact fin _ (by unfold pp; rw [if_neg hd])
theorem Print_no {d : api_Delta} (h : de d ≠ 0) : delta_Print d = some ([], de d) := by
 unfold delta_Print
 rw [Check_eq, call_some, decide_eq_false h]; rfl
theorem slices_refl (l : List Pc) : slices_Equal_api_Piece_api_Piece l l = some true := by
 unfold slices_Equal_api_Piece_api_Piece
 simp only [decide_true, Bool.not_true, cond_false, jp_eq]
 refine forL_run (fun i r _ => l.drop i = r) (fun _ _ _ => some true) (fun _ _ _ => rfl) ?_ l 0 () rfl
 rintro i p r ⟨⟩ nx h hnx
 have hi : i < l.length := by
  rcases Nat.lt_or_ge i l.length with h' | h'
  ·exact h'
  ·rw [List.drop_eq_nil_of_le h'] at h; cases h
 rw [List.drop_eq_getElem_cons hi] at h
 injection h with h1 h2
 rw [idx_eq hi, h1]
 simp only [decide_true, Bool.and_self, Bool.not_true, cond_false]
 exact hnx _ h2
theorem same_refl (d : api_Delta) : Law_sameDelta d d = some true := by
 unfold Law_sameDelta
 simp only [decide_true, Bool.and_self, slices_refl, callG_some, cond_true]
def patch (a : Str) (d : api_Delta) : Str × Int :=
 if (a.length : Int) ≠ d.Old ∨ sumS a ≠ d.OldSum then ([], 14) else if sumS (made a d.Pieces) ≠ d.NewSum then ([], 14) else (made a d.Pieces, 0)
theorem Patch_eq (a : Str) {d : api_Delta} (h : Dok d) : R_Patch a d = some (patch a d) := by
 obtain ⟨o1, o2, n1, n2, s1, s2, l1, hp⟩ := de_ok h.ok
 unfold R_Patch patch
 rw [R_SumOf_eq, callG_some]
 by_cases h1 : (a.length : Int) = d.Old
 ·rw [decide_eq_true h1]
  simp only [Bool.not_true, Bool.not_false, cond_true, Bool.false_or]
  by_cases h2 : sumS a = d.OldSum
  ·rw [decide_eq_true h2, if_neg (by simp [h1, h2])]
   simp only [Bool.not_true, cond_false]
   rw [Made_eq (by omega) _ (by rw [h1]; exact h.pok) l1, call_some, R_SumOf_eq, call_some]
   by_cases h3 : sumS (made a d.Pieces) = d.NewSum
   ·rw [decide_eq_true h3, if_neg (by simp [h3])]; rfl
   ·rw [decide_eq_false h3, if_pos h3]; rfl
  ·rw [decide_eq_false h2, if_pos (.inr h2)]; rfl
 ·rw [decide_eq_false h1, if_pos (.inl h1)]; rfl
theorem Apply_eq (a : Str) {d : api_Delta} (h : Dok d) : delta_Apply a d = some (patch a d) := by
 obtain ⟨o1, o2, n1, n2, s1, s2, l1, hp⟩ := de_ok h.ok
 unfold delta_Apply patch
 rw [Check_eq, call_some, h.ok]
 simp only [decide_true, Bool.not_true, cond_false]
 rw [disk_SumOf_eq, callG_some]
 by_cases h1 : (a.length : Int) = d.Old
 ·rw [decide_eq_true h1]
  simp only [Bool.not_true, Bool.not_false, cond_true, Bool.false_or]
  by_cases h2 : sumS a = d.OldSum
  ·rw [decide_eq_true h2, if_neg (by simp [h1, h2])]
   simp only [Bool.not_true, cond_false, jp_eq]
   refine (made_loop (by omega) _ _ (by rw [h1]; exact h.pok) l1).trans ?_
   simp only [bs_eq, call_some, disk_SumOf_eq]
   by_cases h3 : sumS (made a d.Pieces) = d.NewSum
   ·rw [decide_eq_true h3, if_neg (by simp [h3])]; rfl
   ·rw [decide_eq_false h3, if_pos h3]; rfl
  ·rw [decide_eq_false h2, if_pos (.inr h2)]; rfl
 ·rw [decide_eq_false h1, if_pos (.inl h1)]; rfl
theorem Apply_no (a : Str) {d : api_Delta} (h : de d ≠ 0) : delta_Apply a d = some ([], de d) := by
 unfold delta_Apply
 rw [Check_eq, call_some, decide_eq_false h]; rfl
theorem landed_eq : Law_landed = some true := by decide +kernel
theorem Fresh_eq (d : api_Delta) : ∃ n, delta_Fresh d = some (n, de d) := by
 unfold delta_Fresh
 rw [Check_eq, call_some]
 by_cases h : de d = 0
 ·rw [decide_eq_true h]
  simp only [Bool.not_true, cond_false, jp_eq, h]
  rw [forL_fold (fun (n : Int) (p : Pc) => IntKind.i64.wrap (n + (p.Data.length : Int)))]
  exact ⟨_, rfl⟩
 ·rw [decide_eq_false h]; exact ⟨0, rfl⟩
theorem half (a : Str) (d : api_Delta) (hs : ∀ p ∈ d.Pieces, p.Data.length ≤ 1048576) :
  (call (R_DeltaError d) fun r_17 =>
   call (delta_Apply a d) fun r_18 =>
   call (delta_Tidy d) fun r_19 =>
   call (delta_Fresh d) fun r_20 =>
   call (delta_Cost d) fun r_21 =>
   call (delta_Check d) fun r_22 =>
   bif ((((!decide (r_22 = r_17)) || (!decide (r_19.2 = r_17))) || (!decide (r_20.2 = r_17))) || (!decide (r_21.2 = r_17))) then
    some false
   else
   bif !decide (r_17 = 0) then
    callG ((decide (r_18.2 = r_17)) && (decide (r_18.1 = []))) (Law_sameDelta r_19.1 (api_Delta.mk 0 0 [] [] [])) false fun r_23 =>
    some ((((decide (r_18.2 = r_17)) && (decide (r_18.1 = []))) && r_23) && (decide (r_21.1 = 0)))
   else
   call (R_Patch a d) fun r_24 =>
   call (R_Joined d.Pieces) fun r_25 =>
   callG ((decide (r_18.1 = r_24.1)) && (decide (r_18.2 = r_24.2))) (Law_sameDelta r_19.1 (api_Delta.mk d.Old d.New d.OldSum d.NewSum r_25)) false fun r_26 =>
   callG (((decide (r_18.1 = r_24.1)) && (decide (r_18.2 = r_24.2))) && r_26) (R_PrintDelta d) [] fun r_27 =>
   some ((((decide (r_18.1 = r_24.1)) && (decide (r_18.2 = r_24.2))) && r_26) && (decide (r_21.1 = (r_27.length : Int))))) = some true := by
 obtain ⟨n, hF⟩ := Fresh_eq d
 rw [DeltaError_eq, call_some]
 by_cases h : de d = 0
 ·have hd : Dok d := ⟨h, hs⟩
  have hl := (de_ok h).2.2.2.2.2.2.1
  have h64 := (de_ok h).2.1
  rw [Apply_eq a hd, call_some]
  have hT : delta_Tidy d = some (⟨d.Old, d.New, d.OldSum, d.NewSum, jns d.Pieces⟩, 0) := by
   unfold delta_Tidy
   rw [Check_eq, call_some, h, joined_eq h64 _ hd.pok hl]; rfl
  have hC : delta_Cost d = some (((printS d).length : Int), 0) := by
   unfold delta_Cost
   rw [Print_ok hd]; rfl
  rw [hT, call_some, hF, call_some, hC, call_some, Check_eq, call_some, h]
  simp only [decide_true, Bool.not_true, Bool.or_self, cond_false]
  rw [Patch_eq a hd, call_some, Joined_eq h64 _ hd.pok hl, call_some]
  simp only [decide_true, Bool.and_self, callG_true, same_refl, call_some, PrintDelta_ok hd]
 ·rw [Apply_no a h, call_some]
  have hT : delta_Tidy d = some (⟨0, 0, [], [], []⟩, de d) := by
   unfold delta_Tidy
   rw [Check_eq, call_some, decide_eq_false h]; rfl
  have hC : delta_Cost d = some (0, de d) := by
   unfold delta_Cost
   rw [Print_no h]; rfl
  rw [hT, call_some, hF, call_some, hC, call_some, Check_eq, call_some]
  simp only [decide_true, Bool.not_true, Bool.or_self, cond_false, decide_eq_false h, Bool.not_false, cond_true, Bool.and_self, callG_true, same_refl, call_some]
theorem law_rd (a : Str) (d : api_Delta) (old : Int) (summed : Bool) (hs : ∀ p ∈ d.Pieces, p.Data.length ≤ 1048576) : Law_RawDeltas a d old summed = some true := by
 unfold Law_RawDeltas
 rw [landed_eq, call_some, Bool.not_true, cond_false, CheckSteps_eq, call_some, R_PiecesError_eq, call_some]
 simp only [decide_true, Bool.not_true, Bool.or_self, cond_false]
 rw [jp_eq]
 dsimp only
 cases summed
 ·have := half a ⟨d.Old, d.New, d.OldSum, d.NewSum, d.Pieces⟩ hs
  dsimp only at this
  rw [cond_false]
  exact this
 ·rw [cond_true, R_SumOf_eq, call_some, R_PiecesError_eq, call_some]
  by_cases h : (pe d.Pieces (a.length : Int)).2 = 0
  ·rw [decide_eq_true h, cond_true]
   obtain ⟨p1, p2, p3, p4⟩ := pe_ok h
   rw [Made_eq (by omega) _ (fun p hp => ⟨p4 p hp, hs p hp⟩) p3, call_some, R_SumOf_eq, call_some]
   have := half a ⟨(a.length : Int), (pe d.Pieces (a.length : Int)).1, sumS a, sumS (made a d.Pieces), d.Pieces⟩ hs
   dsimp only at this ⊢
   exact this
  ·rw [decide_eq_false h, cond_false]
   have := half a ⟨(a.length : Int), d.New, sumS a, d.NewSum, d.Pieces⟩ hs
   dsimp only at this ⊢
   exact this
end Go.Md
