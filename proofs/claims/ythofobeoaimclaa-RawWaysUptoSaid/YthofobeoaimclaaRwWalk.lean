/- The functions of RawWays, walked: what each returns. -/
import Derived.Test.YthofobeoaimclaaVc2
import Derived.Test.YthofobeoaimclaaTy
namespace Go.Proofs.Ythofobeoaimclaa
open Go.Vc
set_option linter.unusedSimpArgs false
set_option linter.unusedVariables false
abbrev I (n : Int) : Dt := .i .i64 n
def out (n l h : Int) : Bool := decide (n < l) || decide (h < n)
abbrev ints (ns : List Int) : List (List Dt) := ns.map fun n => [I n]
abbrev ways (ws : List (Int × Int × Int)) : List (List Dt) := ws.map fun w => [I w.1, I w.2.1, I w.2.2]
def wayErr (m : Int) (w : Int × Int × Int) : Option Int := if out w.1 0 (m - 1) || out w.2.1 0 (m - 1) then some 10 else if w.1 = w.2.1 then some 2 else if out w.2.2 0 1000000000 then some 3 else none
def checkWays (ws : List (Int × Int × Int)) (ns : List Int) : Int :=
  if 1000 < ws.length ∨ 200 < ns.length then 4 else if ns.any (fun n => out n 0 1000000000) then 3 else (ws.findSome? (wayErr ns.length)).getD 0
theorem ref_way (m : Int) (w : Int × Int × Int) : (List.find? (fun x => x != 0) [bif decide (w.1 < 0) || decide (m ≤ w.1) || decide (w.2.1 < 0) || decide (m ≤ w.2.1) then 10 else 0, bif decide (w.1 = w.2.1) then 2 else 0, bif decide (w.2.2 < 0) || decide (1000000000 < w.2.2) then (3 : Int) else 0]).getD 0 = (wayErr m w).getD 0 := by
  have h1 : (decide (w.1 < 0) || decide (m ≤ w.1) || decide (w.2.1 < 0) || decide (m ≤ w.2.1)) = (out w.1 0 (m - 1) || out w.2.1 0 (m - 1)) := by
    unfold out
    rw [Bool.eq_iff_iff]
    simp
    omega
  rw [h1]
  unfold wayErr
  cases (out w.1 0 (m - 1) || out w.2.1 0 (m - 1))
  · by_cases h2 : w.1 = w.2.1
    · simp [h2]
    · show (List.find? _ [_, _, bif out w.2.2 0 1000000000 then (3 : Int) else 0]).getD 0 = _
      cases h3 : out w.2.2 0 1000000000 <;> simp [h2]
  · simp
theorem way_ne (m : Int) (w : Int × Int × Int) (e : Int) (h : wayErr m w = some e) : e ≠ 0 := by
  unfold wayErr at h
  repeat' split at h
  all_goals first | (cases h; decide) | cases h
abbrev U (n : Int) : Dt := .i .u8 n
def small (c : Int) : Bool := decide (97 ≤ c) && decide (c ≤ 122)
def digit (c : Int) : Bool := decide (48 ≤ c) && decide (c ≤ 57)
def nameCh (c : Int) : Bool := small c || digit c || decide (c = 45) || decide (c = 46)
def eachB (s : List UInt8) (m : Int) (p : Int → Bool) : Bool := s.all (fun c => p c.toNat) && !decide (s = []) && decide ((s.length : Int) ≤ m)
def isName (s : List UInt8) : Bool := eachB s 40 nameCh && small (s.getD 0 0).toNat

theorem outside_ok (n l h : Int) : Does Try.prog 20 [.p (.i .i64 n), .p (.i .i64 l), .p (.i .i64 h)] [] (fun r X => r = .p (.b (out n l h)) ∧ X = []) := by
  refine Does.of_wp 0 15 [.tmp 6] Try.func20 rfl (by decide) rfl rfl (Nat.le_of_ble_eq_true rfl) fun B => ?_
  refine Wp.seqR fun K1 hK1 => ?_
  simp only [go_sem, Nat.reduceLT, Nat.reduceLeDiff, Nat.reduceAdd, Nat.reduceSub, Nat.reduceMul, Nat.reduceEqDiff, Nat.reduceBEq, Int.reduceLE, Int.reduceLT, Int.reduceNeg, Int.reduceAdd, Int.reduceSub, Int.reduceToNat, reduceCtorEq, ↓reduceIte]
  refine hK1 _ _ ?_
  refine Wp.seqR fun K2 hK2 => ?_
  simp only [go_sem, Nat.reduceLT, Nat.reduceLeDiff, Nat.reduceAdd, Nat.reduceSub, Nat.reduceMul, Nat.reduceEqDiff, Nat.reduceBEq, Int.reduceLE, Int.reduceLT, Int.reduceNeg, Int.reduceAdd, Int.reduceSub, Int.reduceToNat, reduceCtorEq, ↓reduceIte]
  refine hK2 _ _ ?_
  refine Wp.ret ?_
  refine retQ_ret ?_
  simp only [go_sem, Nat.reduceLT, Nat.reduceLeDiff, Nat.reduceAdd, Nat.reduceSub, Nat.reduceMul, Nat.reduceEqDiff, Nat.reduceBEq, Int.reduceLE, Int.reduceLT, Int.reduceNeg, Int.reduceAdd, Int.reduceSub, Int.reduceToNat, reduceCtorEq, ↓reduceIte, out]
theorem check_ok (ws : List (Int × Int × Int)) (ns : List Int) : Does Try.prog 7 [.p (.l (ways ws)), .p (.l (ints ns))] [] (fun r X => r = .p (I (checkWays ws ns)) ∧ X = []) := by
  refine Does.of_wp 0 58 [.tmp 4] Try.func7 rfl (by decide) rfl rfl (Nat.le_of_ble_eq_true rfl) fun B => ?_
  refine Wp.seqR fun K1 hK1 => ?_
  simp only [go_sem, Nat.reduceLT, Nat.reduceLeDiff, Nat.reduceAdd, Nat.reduceSub, Nat.reduceMul, Nat.reduceEqDiff, Nat.reduceBEq, Int.reduceLE, Int.reduceLT, Int.reduceNeg, Int.reduceAdd, Int.reduceSub, Int.reduceToNat, reduceCtorEq, ↓reduceIte]
  refine hK1 _ _ ?_
  refine Wp.seq fun K2 hK2 => ?_
  refine Wp.seqR fun K3 hK3 => ?_
  simp only [go_sem, Nat.reduceLT, Nat.reduceLeDiff, Nat.reduceAdd, Nat.reduceSub, Nat.reduceMul, Nat.reduceEqDiff, Nat.reduceBEq, Int.reduceLE, Int.reduceLT, Int.reduceNeg, Int.reduceAdd, Int.reduceSub, Int.reduceToNat, reduceCtorEq, ↓reduceIte]
  refine hK3 _ _ ?_
  refine Wp.cond rfl ⟨⟩ (fun hc => ?_) (fun hc => ?_)
  · refine Wp.seqR fun K4 hK4 => ?_
    simp only [go_sem, Nat.reduceLT, Nat.reduceLeDiff, Nat.reduceAdd, Nat.reduceSub, Nat.reduceMul, Nat.reduceEqDiff, Nat.reduceBEq, Int.reduceLE, Int.reduceLT, Int.reduceNeg, Int.reduceAdd, Int.reduceSub, Int.reduceToNat, reduceCtorEq, ↓reduceIte]
    refine hK4 _ _ ?_
    refine Wp.ret ?_
    simp only [thenQ, blockQ]
    refine retQ_ret ?_
    simp only [go_sem, Nat.reduceLT, Nat.reduceLeDiff, Nat.reduceAdd, Nat.reduceSub, Nat.reduceMul, Nat.reduceEqDiff, Nat.reduceBEq, Int.reduceLE, Int.reduceLT, Int.reduceNeg, Int.reduceAdd, Int.reduceSub, Int.reduceToNat, reduceCtorEq, ↓reduceIte]
    unfold checkWays
    rw [if_pos (by simp at hc; omega)]
  · refine Wp.skip ?_
    simp only [thenQ, blockQ, ↓reduceIte]
    refine hK2 _ _ ?_
    refine Wp.seq fun K5 hK5 => ?_
    refine Wp.seqR fun K6 hK6 => ?_
    simp only [go_sem, Nat.reduceLT, Nat.reduceLeDiff, Nat.reduceAdd, Nat.reduceSub, Nat.reduceMul, Nat.reduceEqDiff, Nat.reduceBEq, Int.reduceLE, Int.reduceLT, Int.reduceNeg, Int.reduceAdd, Int.reduceSub, Int.reduceToNat, reduceCtorEq, ↓reduceIte]
    refine hK6 _ _ ?_
    refine Wp.block ?_
    refine Wp.loop (S := Nat) (fun i => [(19, .p (I i)), (18, .p (I ns.length)), (17, .p (.l (ints ns))), (0, .p (.l (ways ws))), (1, .p (.l (ints ns)))]) (fun _ => []) (fun i => i ≤ ns.length ∧ (ns.drop i).any (fun n => out n 0 1000000000) = ns.any (fun n => out n 0 1000000000)) (fun i => ns.length - i) (0) ?_ ?_ ?_
    · simp only [go_sem, Nat.reduceLT, Nat.reduceLeDiff, Nat.reduceAdd, Nat.reduceSub, Nat.reduceMul, Nat.reduceEqDiff, Nat.reduceBEq, Int.reduceLE, Int.reduceLT, Int.reduceNeg, Int.reduceAdd, Int.reduceSub, Int.reduceToNat, reduceCtorEq, ↓reduceIte, List.length_map]
      first | rfl | exact ⟨rfl, rfl⟩
    · simp
    intro i ⟨hi, hinv⟩
    refine Wp.seqR fun K7 hK7 => ?_
    simp only [go_sem, Nat.reduceLT, Nat.reduceLeDiff, Nat.reduceAdd, Nat.reduceSub, Nat.reduceMul, Nat.reduceEqDiff, Nat.reduceBEq, Int.reduceLE, Int.reduceLT, Int.reduceNeg, Int.reduceAdd, Int.reduceSub, Int.reduceToNat, reduceCtorEq, ↓reduceIte]
    refine hK7 _ _ ?_
    refine Wp.seq fun K8 hK8 => ?_
    refine Wp.cond rfl ⟨⟩ (fun hc1 => ?_) (fun hc1 => ?_)
    · have hlt : i < ns.length := by simpa using hc1
      have hrow : (ints ns).getD i [] = [I ns[i]] := by simp [ints, List.getD_eq_getElem?_getD, hlt]
      have hany : (ns.drop i).any (fun n => out n 0 1000000000) = (out ns[i] 0 1000000000 || (ns.drop (i + 1)).any (fun n => out n 0 1000000000)) := by
        rw [List.drop_eq_getElem_cons hlt, List.any_cons]
      refine Wp.skip ?_
      simp only [thenQ, blockQ, ↓reduceIte]
      refine hK8 _ _ ?_
      refine Wp.seq fun K9 hK9 => ?_
      refine Wp.block ?_
      refine Wp.seqR fun K10 hK10 => ?_
      simp only [go_sem, Nat.reduceLT, Nat.reduceLeDiff, Nat.reduceAdd, Nat.reduceSub, Nat.reduceMul, Nat.reduceEqDiff, Nat.reduceBEq, Int.reduceLE, Int.reduceLT, Int.reduceNeg, Int.reduceAdd, Int.reduceSub, Int.reduceToNat, reduceCtorEq, ↓reduceIte, Int.toNat_natCast, hrow]
      refine ⟨⟨by omega, by simpa using hlt⟩, hK10 _ _ ?_⟩
      refine Wp.seqR fun K11 hK11 => ?_
      simp only [go_sem, Nat.reduceLT, Nat.reduceLeDiff, Nat.reduceAdd, Nat.reduceSub, Nat.reduceMul, Nat.reduceEqDiff, Nat.reduceBEq, Int.reduceLE, Int.reduceLT, Int.reduceNeg, Int.reduceAdd, Int.reduceSub, Int.reduceToNat, reduceCtorEq, ↓reduceIte]
      refine Rg.callX (av := ?av12) (g := ?g12) (fun hg12 => outside_ok ns[i] 0 1000000000) ?ha12 ?hb12 ?hp12 ?hok12 ?hf12 ?cont12
      case ha12 =>
        simp only [go_sem, Nat.reduceLT, Nat.reduceLeDiff, Nat.reduceAdd, Nat.reduceSub, Nat.reduceMul, Nat.reduceEqDiff, Nat.reduceBEq, Int.reduceLE, Int.reduceLT, Int.reduceNeg, Int.reduceAdd, Int.reduceSub, Int.reduceToNat, reduceCtorEq, ↓reduceIte]
        exact Is.mk
      case hb12 =>
        simp only [go_sem, Nat.reduceLT, Nat.reduceLeDiff, Nat.reduceAdd, Nat.reduceSub, Nat.reduceMul, Nat.reduceEqDiff, Nat.reduceBEq, Int.reduceLE, Int.reduceLT, Int.reduceNeg, Int.reduceAdd, Int.reduceSub, Int.reduceToNat, reduceCtorEq, ↓reduceIte]
        exact Is.mk
      case hp12 =>
        simp only [go_sem, Nat.reduceLT, Nat.reduceLeDiff, Nat.reduceAdd, Nat.reduceSub, Nat.reduceMul, Nat.reduceEqDiff, Nat.reduceBEq, Int.reduceLE, Int.reduceLT, Int.reduceNeg, Int.reduceAdd, Int.reduceSub, Int.reduceToNat, reduceCtorEq, ↓reduceIte]
        exact Is.mk
      case hok12 =>
        simp only [go_sem, Nat.reduceLT, Nat.reduceLeDiff, Nat.reduceAdd, Nat.reduceSub, Nat.reduceMul, Nat.reduceEqDiff, Nat.reduceBEq, Int.reduceLE, Int.reduceLT, Int.reduceNeg, Int.reduceAdd, Int.reduceSub, Int.reduceToNat, reduceCtorEq, ↓reduceIte]
      case hf12 =>
        simp only [go_sem, Nat.reduceLT, Nat.reduceLeDiff, Nat.reduceAdd, Nat.reduceSub, Nat.reduceMul, Nat.reduceEqDiff, Nat.reduceBEq, Int.reduceLE, Int.reduceLT, Int.reduceNeg, Int.reduceAdd, Int.reduceSub, Int.reduceToNat, reduceCtorEq, ↓reduceIte]
        exact Is.mk
      intro hv12
      simp only [go_sem, Nat.reduceLT, Nat.reduceLeDiff, Nat.reduceAdd, Nat.reduceSub, Nat.reduceMul, Nat.reduceEqDiff, Nat.reduceBEq, Int.reduceLE, Int.reduceLT, Int.reduceNeg, Int.reduceAdd, Int.reduceSub, Int.reduceToNat, reduceCtorEq, ↓reduceIte]
      refine hK11 _ _ ?_
      refine Wp.cond rfl ⟨⟩ (fun ho => ?_) (fun ho => ?_)
      · refine Wp.seqR fun K13 hK13 => ?_
        simp only [go_sem, Nat.reduceLT, Nat.reduceLeDiff, Nat.reduceAdd, Nat.reduceSub, Nat.reduceMul, Nat.reduceEqDiff, Nat.reduceBEq, Int.reduceLE, Int.reduceLT, Int.reduceNeg, Int.reduceAdd, Int.reduceSub, Int.reduceToNat, reduceCtorEq, ↓reduceIte]
        refine hK13 _ _ ?_
        refine Wp.ret ?_
        simp only [thenQ, blockQ]
        refine retQ_ret ?_
        simp only [go_sem, Nat.reduceLT, Nat.reduceLeDiff, Nat.reduceAdd, Nat.reduceSub, Nat.reduceMul, Nat.reduceEqDiff, Nat.reduceBEq, Int.reduceLE, Int.reduceLT, Int.reduceNeg, Int.reduceAdd, Int.reduceSub, Int.reduceToNat, reduceCtorEq, ↓reduceIte]
        unfold checkWays
        rw [if_neg (by simp at *; omega), if_pos (by rw [← hinv, hany, ho]; rfl)]
      · refine Wp.skip ?_
        simp only [thenQ, blockQ, ↓reduceIte]
        refine hK9 _ _ ?_
        refine Wp.fact 17 fun hlen => ?_
        simp only [go_sem, Nat.reduceLT, Nat.reduceLeDiff, Nat.reduceAdd, Nat.reduceSub, Nat.reduceMul, Nat.reduceEqDiff, Nat.reduceBEq, Int.reduceLE, Int.reduceLT, Int.reduceNeg, Int.reduceAdd, Int.reduceSub, Int.reduceToNat, reduceCtorEq, ↓reduceIte, List.length_map, Lim] at hlen
        have hw : IntKind.i64.wrap ((i : Int) + 1) = ((i + 1 : Nat) : Int) := by rw [wrap64 (by omega) (by omega)]; omega
        refine Wp.region fun K14 hK14 => ?_
        simp only [go_sem, Nat.reduceLT, Nat.reduceLeDiff, Nat.reduceAdd, Nat.reduceSub, Nat.reduceMul, Nat.reduceEqDiff, Nat.reduceBEq, Int.reduceLE, Int.reduceLT, Int.reduceNeg, Int.reduceAdd, Int.reduceSub, Int.reduceToNat, reduceCtorEq, ↓reduceIte, hw]
        refine hK14 _ _ ?_
        simp only [thenQ, blockQ, ↓reduceIte]
        refine ⟨i + 1, ⟨by omega, by rw [← hinv, hany, ho]; rfl⟩, by omega, ?_⟩
        simp only [go_sem, Nat.reduceLT, Nat.reduceLeDiff, Nat.reduceAdd, Nat.reduceSub, Nat.reduceMul, Nat.reduceEqDiff, Nat.reduceBEq, Int.reduceLE, Int.reduceLT, Int.reduceNeg, Int.reduceAdd, Int.reduceSub, Int.reduceToNat, reduceCtorEq, ↓reduceIte]
    · have hall : ns.any (fun n => out n 0 1000000000) = false := by
        have : i = ns.length := by simp at hc1; omega
        rw [← hinv, this]; simp
      refine Wp.exit ?_
      simp only [thenQ, blockQ, ↓reduceIte]
      refine hK5 _ _ ?_
      refine Wp.seq fun K15 hK15 => ?_
      refine Wp.fact 17 fun hlen => ?_
      simp only [go_sem, Nat.reduceLT, Nat.reduceLeDiff, Nat.reduceAdd, Nat.reduceSub, Nat.reduceMul, Nat.reduceEqDiff, Nat.reduceBEq, Int.reduceLE, Int.reduceLT, Int.reduceNeg, Int.reduceAdd, Int.reduceSub, Int.reduceToNat, reduceCtorEq, ↓reduceIte, List.length_map, Lim] at hlen
      refine Wp.seqR fun K16 hK16 => ?_
      simp only [go_sem, Nat.reduceLT, Nat.reduceLeDiff, Nat.reduceAdd, Nat.reduceSub, Nat.reduceMul, Nat.reduceEqDiff, Nat.reduceBEq, Int.reduceLE, Int.reduceLT, Int.reduceNeg, Int.reduceAdd, Int.reduceSub, Int.reduceToNat, reduceCtorEq, ↓reduceIte, List.length_map]
      refine hK16 _ _ ?_
      refine Wp.block ?_
      refine Wp.loop (S := Nat) (fun i => [(28, .p (I i)), (27, .p (I ws.length)), (26, .p (.l (ways ws))), (1, .p (.l (ints ns)))]) (fun _ => []) (fun i => i ≤ ws.length ∧ (ws.drop i).findSome? (wayErr ns.length) = ws.findSome? (wayErr ns.length)) (fun i => ws.length - i) (0) ?_ ?_ ?_
      · simp only [go_sem, Nat.reduceLT, Nat.reduceLeDiff, Nat.reduceAdd, Nat.reduceSub, Nat.reduceMul, Nat.reduceEqDiff, Nat.reduceBEq, Int.reduceLE, Int.reduceLT, Int.reduceNeg, Int.reduceAdd, Int.reduceSub, Int.reduceToNat, reduceCtorEq, ↓reduceIte, List.length_map]
        first | rfl | exact ⟨rfl, rfl⟩
      · simp
      intro j ⟨hj, hjinv⟩
      refine Wp.seqR fun K17 hK17 => ?_
      simp only [go_sem, Nat.reduceLT, Nat.reduceLeDiff, Nat.reduceAdd, Nat.reduceSub, Nat.reduceMul, Nat.reduceEqDiff, Nat.reduceBEq, Int.reduceLE, Int.reduceLT, Int.reduceNeg, Int.reduceAdd, Int.reduceSub, Int.reduceToNat, reduceCtorEq, ↓reduceIte]
      refine hK17 _ _ ?_
      refine Wp.seq fun K18 hK18 => ?_
      refine Wp.cond rfl ⟨⟩ (fun hc2 => ?_) (fun hc2 => ?_)
      · have hlt : j < ws.length := by simpa using hc2
        have hrow : (ways ws).getD j [] = [I ws[j].1, I ws[j].2.1, I ws[j].2.2] := by simp [ways, List.getD_eq_getElem?_getD, hlt]
        have hfs : (ws.drop j).findSome? (wayErr ns.length) = match wayErr ns.length ws[j] with | some e => some e | none => (ws.drop (j + 1)).findSome? (wayErr ns.length) := by
          rw [List.drop_eq_getElem_cons hlt, List.findSome?_cons]
          cases wayErr ns.length ws[j] <;> rfl
        have hw : IntKind.i64.wrap ((ns.length : Int) - 1) = (ns.length : Int) - 1 := wrap64 (by omega) (by omega)
        have fin : ∀ e, wayErr ns.length ws[j] = some e → e = checkWays ws ns := fun e he => by
          unfold checkWays
          rw [if_neg (by simp at *; omega), if_neg (by rw [hall]; simp), ← hjinv, hfs, he]; rfl
        refine Wp.skip ?_
        simp only [thenQ, blockQ, ↓reduceIte]
        refine hK18 _ _ ?_
        refine Wp.seq fun K19 hK19 => ?_
        refine Wp.block ?_
        refine Wp.seqR fun K20 hK20 => ?_
        simp only [go_sem, Nat.reduceLT, Nat.reduceLeDiff, Nat.reduceAdd, Nat.reduceSub, Nat.reduceMul, Nat.reduceEqDiff, Nat.reduceBEq, Int.reduceLE, Int.reduceLT, Int.reduceNeg, Int.reduceAdd, Int.reduceSub, Int.reduceToNat, reduceCtorEq, ↓reduceIte, Int.toNat_natCast, hrow]
        refine ⟨⟨by omega, by simpa using hlt⟩, hK20 _ _ ?_⟩
        refine Wp.block ?_
        refine Wp.seqR fun K21 hK21 => ?_
        simp only [go_sem, Nat.reduceLT, Nat.reduceLeDiff, Nat.reduceAdd, Nat.reduceSub, Nat.reduceMul, Nat.reduceEqDiff, Nat.reduceBEq, Int.reduceLE, Int.reduceLT, Int.reduceNeg, Int.reduceAdd, Int.reduceSub, Int.reduceToNat, reduceCtorEq, ↓reduceIte, List.length_map, hw]
        refine Rg.callX (av := ?av22) (g := ?g22) (fun hg22 => outside_ok ws[j].1 0 (ns.length - 1)) ?ha22 ?hb22 ?hp22 ?hok22 ?hf22 ?cont22
        case ha22 =>
          simp only [go_sem, Nat.reduceLT, Nat.reduceLeDiff, Nat.reduceAdd, Nat.reduceSub, Nat.reduceMul, Nat.reduceEqDiff, Nat.reduceBEq, Int.reduceLE, Int.reduceLT, Int.reduceNeg, Int.reduceAdd, Int.reduceSub, Int.reduceToNat, reduceCtorEq, ↓reduceIte, List.length_map, hw]
          exact Is.mk
        case hb22 =>
          simp only [go_sem, Nat.reduceLT, Nat.reduceLeDiff, Nat.reduceAdd, Nat.reduceSub, Nat.reduceMul, Nat.reduceEqDiff, Nat.reduceBEq, Int.reduceLE, Int.reduceLT, Int.reduceNeg, Int.reduceAdd, Int.reduceSub, Int.reduceToNat, reduceCtorEq, ↓reduceIte, List.length_map, hw]
          exact Is.mk
        case hp22 =>
          simp only [go_sem, Nat.reduceLT, Nat.reduceLeDiff, Nat.reduceAdd, Nat.reduceSub, Nat.reduceMul, Nat.reduceEqDiff, Nat.reduceBEq, Int.reduceLE, Int.reduceLT, Int.reduceNeg, Int.reduceAdd, Int.reduceSub, Int.reduceToNat, reduceCtorEq, ↓reduceIte, List.length_map, hw]
          exact Is.mk
        case hok22 =>
          simp only [go_sem, Nat.reduceLT, Nat.reduceLeDiff, Nat.reduceAdd, Nat.reduceSub, Nat.reduceMul, Nat.reduceEqDiff, Nat.reduceBEq, Int.reduceLE, Int.reduceLT, Int.reduceNeg, Int.reduceAdd, Int.reduceSub, Int.reduceToNat, reduceCtorEq, ↓reduceIte, List.length_map, hw]
        case hf22 =>
          simp only [go_sem, Nat.reduceLT, Nat.reduceLeDiff, Nat.reduceAdd, Nat.reduceSub, Nat.reduceMul, Nat.reduceEqDiff, Nat.reduceBEq, Int.reduceLE, Int.reduceLT, Int.reduceNeg, Int.reduceAdd, Int.reduceSub, Int.reduceToNat, reduceCtorEq, ↓reduceIte, List.length_map, hw]
          exact Is.mk
        intro hv22
        simp only [go_sem, Nat.reduceLT, Nat.reduceLeDiff, Nat.reduceAdd, Nat.reduceSub, Nat.reduceMul, Nat.reduceEqDiff, Nat.reduceBEq, Int.reduceLE, Int.reduceLT, Int.reduceNeg, Int.reduceAdd, Int.reduceSub, Int.reduceToNat, reduceCtorEq, ↓reduceIte, List.length_map, hw]
        refine Rg.callX (av := ?av23) (g := ?g23) (fun hg23 => outside_ok ws[j].2.1 0 (ns.length - 1)) ?ha23 ?hb23 ?hp23 ?hok23 ?hf23 ?cont23
        case ha23 =>
          simp only [go_sem, Nat.reduceLT, Nat.reduceLeDiff, Nat.reduceAdd, Nat.reduceSub, Nat.reduceMul, Nat.reduceEqDiff, Nat.reduceBEq, Int.reduceLE, Int.reduceLT, Int.reduceNeg, Int.reduceAdd, Int.reduceSub, Int.reduceToNat, reduceCtorEq, ↓reduceIte, List.length_map, hw]
          exact Is.mk
        case hb23 =>
          simp only [go_sem, Nat.reduceLT, Nat.reduceLeDiff, Nat.reduceAdd, Nat.reduceSub, Nat.reduceMul, Nat.reduceEqDiff, Nat.reduceBEq, Int.reduceLE, Int.reduceLT, Int.reduceNeg, Int.reduceAdd, Int.reduceSub, Int.reduceToNat, reduceCtorEq, ↓reduceIte, List.length_map, hw]
          exact Is.mk
        case hp23 =>
          simp only [go_sem, Nat.reduceLT, Nat.reduceLeDiff, Nat.reduceAdd, Nat.reduceSub, Nat.reduceMul, Nat.reduceEqDiff, Nat.reduceBEq, Int.reduceLE, Int.reduceLT, Int.reduceNeg, Int.reduceAdd, Int.reduceSub, Int.reduceToNat, reduceCtorEq, ↓reduceIte, List.length_map, hw]
          exact Is.mk
        case hok23 =>
          simp only [go_sem, Nat.reduceLT, Nat.reduceLeDiff, Nat.reduceAdd, Nat.reduceSub, Nat.reduceMul, Nat.reduceEqDiff, Nat.reduceBEq, Int.reduceLE, Int.reduceLT, Int.reduceNeg, Int.reduceAdd, Int.reduceSub, Int.reduceToNat, reduceCtorEq, ↓reduceIte, List.length_map, hw]
        case hf23 =>
          simp only [go_sem, Nat.reduceLT, Nat.reduceLeDiff, Nat.reduceAdd, Nat.reduceSub, Nat.reduceMul, Nat.reduceEqDiff, Nat.reduceBEq, Int.reduceLE, Int.reduceLT, Int.reduceNeg, Int.reduceAdd, Int.reduceSub, Int.reduceToNat, reduceCtorEq, ↓reduceIte, List.length_map, hw]
          exact Is.mk
        intro hv23
        simp only [go_sem, Nat.reduceLT, Nat.reduceLeDiff, Nat.reduceAdd, Nat.reduceSub, Nat.reduceMul, Nat.reduceEqDiff, Nat.reduceBEq, Int.reduceLE, Int.reduceLT, Int.reduceNeg, Int.reduceAdd, Int.reduceSub, Int.reduceToNat, reduceCtorEq, ↓reduceIte, List.length_map, hw]
        refine hK21 _ _ ?_
        refine Wp.cond rfl ⟨⟩ (fun h1 => ?_) (fun h1 => ?_)
        · refine Wp.seqR fun K24 hK24 => ?_
          simp only [go_sem, Nat.reduceLT, Nat.reduceLeDiff, Nat.reduceAdd, Nat.reduceSub, Nat.reduceMul, Nat.reduceEqDiff, Nat.reduceBEq, Int.reduceLE, Int.reduceLT, Int.reduceNeg, Int.reduceAdd, Int.reduceSub, Int.reduceToNat, reduceCtorEq, ↓reduceIte]
          refine hK24 _ _ ?_
          refine Wp.ret ?_
          simp only [thenQ, blockQ]
          refine retQ_ret ?_
          simp only [go_sem, Nat.reduceLT, Nat.reduceLeDiff, Nat.reduceAdd, Nat.reduceSub, Nat.reduceMul, Nat.reduceEqDiff, Nat.reduceBEq, Int.reduceLE, Int.reduceLT, Int.reduceNeg, Int.reduceAdd, Int.reduceSub, Int.reduceToNat, reduceCtorEq, ↓reduceIte]
          rw [← fin 10 (by unfold wayErr; rw [if_pos h1])]
        · refine Wp.seqR fun K25 hK25 => ?_
          simp only [go_sem, Nat.reduceLT, Nat.reduceLeDiff, Nat.reduceAdd, Nat.reduceSub, Nat.reduceMul, Nat.reduceEqDiff, Nat.reduceBEq, Int.reduceLE, Int.reduceLT, Int.reduceNeg, Int.reduceAdd, Int.reduceSub, Int.reduceToNat, reduceCtorEq, ↓reduceIte]
          refine hK25 _ _ ?_
          refine Wp.cond rfl ⟨⟩ (fun h2 => ?_) (fun h2 => ?_)
          · refine Wp.seqR fun K26 hK26 => ?_
            simp only [go_sem, Nat.reduceLT, Nat.reduceLeDiff, Nat.reduceAdd, Nat.reduceSub, Nat.reduceMul, Nat.reduceEqDiff, Nat.reduceBEq, Int.reduceLE, Int.reduceLT, Int.reduceNeg, Int.reduceAdd, Int.reduceSub, Int.reduceToNat, reduceCtorEq, ↓reduceIte]
            refine hK26 _ _ ?_
            refine Wp.ret ?_
            simp only [thenQ, blockQ]
            refine retQ_ret ?_
            simp only [go_sem, Nat.reduceLT, Nat.reduceLeDiff, Nat.reduceAdd, Nat.reduceSub, Nat.reduceMul, Nat.reduceEqDiff, Nat.reduceBEq, Int.reduceLE, Int.reduceLT, Int.reduceNeg, Int.reduceAdd, Int.reduceSub, Int.reduceToNat, reduceCtorEq, ↓reduceIte]
            rw [← fin 2 (by unfold wayErr; rw [if_neg (by rw [h1]; simp), if_pos (by simpa using h2)])]
          · refine Wp.seqR fun K27 hK27 => ?_
            simp only [go_sem, Nat.reduceLT, Nat.reduceLeDiff, Nat.reduceAdd, Nat.reduceSub, Nat.reduceMul, Nat.reduceEqDiff, Nat.reduceBEq, Int.reduceLE, Int.reduceLT, Int.reduceNeg, Int.reduceAdd, Int.reduceSub, Int.reduceToNat, reduceCtorEq, ↓reduceIte]
            refine Rg.callX (av := ?av28) (g := ?g28) (fun hg28 => outside_ok ws[j].2.2 0 1000000000) ?ha28 ?hb28 ?hp28 ?hok28 ?hf28 ?cont28
            case ha28 =>
              simp only [go_sem, Nat.reduceLT, Nat.reduceLeDiff, Nat.reduceAdd, Nat.reduceSub, Nat.reduceMul, Nat.reduceEqDiff, Nat.reduceBEq, Int.reduceLE, Int.reduceLT, Int.reduceNeg, Int.reduceAdd, Int.reduceSub, Int.reduceToNat, reduceCtorEq, ↓reduceIte]
              exact Is.mk
            case hb28 =>
              simp only [go_sem, Nat.reduceLT, Nat.reduceLeDiff, Nat.reduceAdd, Nat.reduceSub, Nat.reduceMul, Nat.reduceEqDiff, Nat.reduceBEq, Int.reduceLE, Int.reduceLT, Int.reduceNeg, Int.reduceAdd, Int.reduceSub, Int.reduceToNat, reduceCtorEq, ↓reduceIte]
              exact Is.mk
            case hp28 =>
              simp only [go_sem, Nat.reduceLT, Nat.reduceLeDiff, Nat.reduceAdd, Nat.reduceSub, Nat.reduceMul, Nat.reduceEqDiff, Nat.reduceBEq, Int.reduceLE, Int.reduceLT, Int.reduceNeg, Int.reduceAdd, Int.reduceSub, Int.reduceToNat, reduceCtorEq, ↓reduceIte]
              exact Is.mk
            case hok28 =>
              simp only [go_sem, Nat.reduceLT, Nat.reduceLeDiff, Nat.reduceAdd, Nat.reduceSub, Nat.reduceMul, Nat.reduceEqDiff, Nat.reduceBEq, Int.reduceLE, Int.reduceLT, Int.reduceNeg, Int.reduceAdd, Int.reduceSub, Int.reduceToNat, reduceCtorEq, ↓reduceIte]
            case hf28 =>
              simp only [go_sem, Nat.reduceLT, Nat.reduceLeDiff, Nat.reduceAdd, Nat.reduceSub, Nat.reduceMul, Nat.reduceEqDiff, Nat.reduceBEq, Int.reduceLE, Int.reduceLT, Int.reduceNeg, Int.reduceAdd, Int.reduceSub, Int.reduceToNat, reduceCtorEq, ↓reduceIte]
              exact Is.mk
            intro hv28
            simp only [go_sem, Nat.reduceLT, Nat.reduceLeDiff, Nat.reduceAdd, Nat.reduceSub, Nat.reduceMul, Nat.reduceEqDiff, Nat.reduceBEq, Int.reduceLE, Int.reduceLT, Int.reduceNeg, Int.reduceAdd, Int.reduceSub, Int.reduceToNat, reduceCtorEq, ↓reduceIte]
            refine hK27 _ _ ?_
            refine Wp.cond rfl ⟨⟩ (fun h3 => ?_) (fun h3 => ?_)
            · refine Wp.seqR fun K29 hK29 => ?_
              simp only [go_sem, Nat.reduceLT, Nat.reduceLeDiff, Nat.reduceAdd, Nat.reduceSub, Nat.reduceMul, Nat.reduceEqDiff, Nat.reduceBEq, Int.reduceLE, Int.reduceLT, Int.reduceNeg, Int.reduceAdd, Int.reduceSub, Int.reduceToNat, reduceCtorEq, ↓reduceIte]
              refine hK29 _ _ ?_
              refine Wp.ret ?_
              simp only [thenQ, blockQ]
              refine retQ_ret ?_
              simp only [go_sem, Nat.reduceLT, Nat.reduceLeDiff, Nat.reduceAdd, Nat.reduceSub, Nat.reduceMul, Nat.reduceEqDiff, Nat.reduceBEq, Int.reduceLE, Int.reduceLT, Int.reduceNeg, Int.reduceAdd, Int.reduceSub, Int.reduceToNat, reduceCtorEq, ↓reduceIte]
              rw [← fin 3 (by unfold wayErr; rw [if_neg (by rw [h1]; simp), if_neg (by simpa using h2), if_pos h3])]
            · refine Wp.skip ?_
              simp only [thenQ, blockQ, ↓reduceIte]
              refine hK19 _ _ ?_
              refine Wp.fact 26 fun hlen2 => ?_
              simp only [go_sem, Nat.reduceLT, Nat.reduceLeDiff, Nat.reduceAdd, Nat.reduceSub, Nat.reduceMul, Nat.reduceEqDiff, Nat.reduceBEq, Int.reduceLE, Int.reduceLT, Int.reduceNeg, Int.reduceAdd, Int.reduceSub, Int.reduceToNat, reduceCtorEq, ↓reduceIte, List.length_map, Lim] at hlen2
              have hw2 : IntKind.i64.wrap ((j : Int) + 1) = ((j + 1 : Nat) : Int) := by rw [wrap64 (by omega) (by omega)]; omega
              refine Wp.region fun K30 hK30 => ?_
              simp only [go_sem, Nat.reduceLT, Nat.reduceLeDiff, Nat.reduceAdd, Nat.reduceSub, Nat.reduceMul, Nat.reduceEqDiff, Nat.reduceBEq, Int.reduceLE, Int.reduceLT, Int.reduceNeg, Int.reduceAdd, Int.reduceSub, Int.reduceToNat, reduceCtorEq, ↓reduceIte, hw2]
              refine hK30 _ _ ?_
              simp only [thenQ, blockQ, ↓reduceIte]
              have hn : wayErr ns.length ws[j] = none := by unfold wayErr; rw [if_neg (by rw [h1]; simp), if_neg (by simpa using h2), if_neg (by rw [h3]; simp)]
              refine ⟨j + 1, ⟨by omega, by rw [← hjinv, hfs, hn]⟩, by omega, ?_⟩
              simp only [go_sem, Nat.reduceLT, Nat.reduceLeDiff, Nat.reduceAdd, Nat.reduceSub, Nat.reduceMul, Nat.reduceEqDiff, Nat.reduceBEq, Int.reduceLE, Int.reduceLT, Int.reduceNeg, Int.reduceAdd, Int.reduceSub, Int.reduceToNat, reduceCtorEq, ↓reduceIte]
      · refine Wp.exit ?_
        simp only [thenQ, blockQ, ↓reduceIte]
        refine hK15 _ _ ?_
        refine Wp.seqR fun K31 hK31 => ?_
        simp only [go_sem, Nat.reduceLT, Nat.reduceLeDiff, Nat.reduceAdd, Nat.reduceSub, Nat.reduceMul, Nat.reduceEqDiff, Nat.reduceBEq, Int.reduceLE, Int.reduceLT, Int.reduceNeg, Int.reduceAdd, Int.reduceSub, Int.reduceToNat, reduceCtorEq, ↓reduceIte]
        refine hK31 _ _ ?_
        refine Wp.ret ?_
        refine retQ_ret ?_
        simp only [go_sem, Nat.reduceLT, Nat.reduceLeDiff, Nat.reduceAdd, Nat.reduceSub, Nat.reduceMul, Nat.reduceEqDiff, Nat.reduceBEq, Int.reduceLE, Int.reduceLT, Int.reduceNeg, Int.reduceAdd, Int.reduceSub, Int.reduceToNat, reduceCtorEq, ↓reduceIte]
        unfold checkWays
        rw [if_neg (by simp at *; omega), if_neg (by rw [hall]; simp), ← hjinv, show j = ws.length by simp at hc2; omega]
        simp
theorem when_ok (b : Bool) (e : Int) : Does Try.prog 22 [.p (.b b), .p (I e)] [] (fun r X => r = .p (I (bif b then e else 0)) ∧ X = []) := by
  refine Does.of_wp 0 7 [.tmp 4] Try.func22 rfl (by decide) rfl rfl (Nat.le_of_ble_eq_true rfl) fun B => ?_
  refine Wp.seqR fun K1 hK1 => ?_
  simp only [go_sem, Nat.reduceLT, Nat.reduceLeDiff, Nat.reduceAdd, Nat.reduceSub, Nat.reduceMul, Nat.reduceEqDiff, Nat.reduceBEq, Int.reduceLE, Int.reduceLT, Int.reduceNeg, Int.reduceAdd, Int.reduceSub, Int.reduceToNat, reduceCtorEq, ↓reduceIte]
  refine hK1 _ _ ?_
  refine Wp.seq fun K2 hK2 => ?_
  refine Wp.seqR fun K3 hK3 => ?_
  simp only [go_sem, Nat.reduceLT, Nat.reduceLeDiff, Nat.reduceAdd, Nat.reduceSub, Nat.reduceMul, Nat.reduceEqDiff, Nat.reduceBEq, Int.reduceLE, Int.reduceLT, Int.reduceNeg, Int.reduceAdd, Int.reduceSub, Int.reduceToNat, reduceCtorEq, ↓reduceIte]
  refine hK3 _ _ ?_
  refine Wp.cond rfl ⟨⟩ (fun hb => ?_) (fun hb => ?_)
  · refine Wp.seqR fun K4 hK4 => ?_
    simp only [go_sem, Nat.reduceLT, Nat.reduceLeDiff, Nat.reduceAdd, Nat.reduceSub, Nat.reduceMul, Nat.reduceEqDiff, Nat.reduceBEq, Int.reduceLE, Int.reduceLT, Int.reduceNeg, Int.reduceAdd, Int.reduceSub, Int.reduceToNat, reduceCtorEq, ↓reduceIte]
    refine hK4 _ _ ?_
    refine Wp.ret ?_
    simp only [thenQ, blockQ]
    refine retQ_ret ?_
    simp only [go_sem, Nat.reduceLT, Nat.reduceLeDiff, Nat.reduceAdd, Nat.reduceSub, Nat.reduceMul, Nat.reduceEqDiff, Nat.reduceBEq, Int.reduceLE, Int.reduceLT, Int.reduceNeg, Int.reduceAdd, Int.reduceSub, Int.reduceToNat, reduceCtorEq, ↓reduceIte]
    rw [hb]; rfl
  · refine Wp.skip ?_
    simp only [thenQ, blockQ, ↓reduceIte]
    refine hK2 _ _ ?_
    refine Wp.seqR fun K5 hK5 => ?_
    simp only [go_sem, Nat.reduceLT, Nat.reduceLeDiff, Nat.reduceAdd, Nat.reduceSub, Nat.reduceMul, Nat.reduceEqDiff, Nat.reduceBEq, Int.reduceLE, Int.reduceLT, Int.reduceNeg, Int.reduceAdd, Int.reduceSub, Int.reduceToNat, reduceCtorEq, ↓reduceIte]
    refine hK5 _ _ ?_
    refine Wp.ret ?_
    refine retQ_ret ?_
    simp only [go_sem, Nat.reduceLT, Nat.reduceLeDiff, Nat.reduceAdd, Nat.reduceSub, Nat.reduceMul, Nat.reduceEqDiff, Nat.reduceBEq, Int.reduceLE, Int.reduceLT, Int.reduceNeg, Int.reduceAdd, Int.reduceSub, Int.reduceToNat, reduceCtorEq, ↓reduceIte]
    rw [hb]; rfl
theorem first_ok (es : List Int) : Does Try.prog 21 [.p (.l (ints es))] [] (fun r X => r = .p (I ((es.find? (· != 0)).getD 0)) ∧ X = []) := by
  refine Does.of_wp 0 15 [.tmp 2] Try.func21 rfl (by decide) rfl rfl (Nat.le_of_ble_eq_true rfl) fun B => ?_
  refine Wp.seqR fun K1 hK1 => ?_
  simp only [go_sem, Nat.reduceLT, Nat.reduceLeDiff, Nat.reduceAdd, Nat.reduceSub, Nat.reduceMul, Nat.reduceEqDiff, Nat.reduceBEq, Int.reduceLE, Int.reduceLT, Int.reduceNeg, Int.reduceAdd, Int.reduceSub, Int.reduceToNat, reduceCtorEq, ↓reduceIte]
  refine hK1 _ _ ?_
  refine Wp.seq fun K2 hK2 => ?_
  refine Wp.seqR fun K3 hK3 => ?_
  simp only [go_sem, Nat.reduceLT, Nat.reduceLeDiff, Nat.reduceAdd, Nat.reduceSub, Nat.reduceMul, Nat.reduceEqDiff, Nat.reduceBEq, Int.reduceLE, Int.reduceLT, Int.reduceNeg, Int.reduceAdd, Int.reduceSub, Int.reduceToNat, reduceCtorEq, ↓reduceIte]
  refine hK3 _ _ ?_
  refine Wp.block ?_
  refine Wp.loop (S := Nat) (fun i => [(7, .p (I i)), (6, .p (I es.length)), (5, .p (.l (ints es)))]) (fun _ => []) (fun i => i ≤ es.length ∧ (es.drop i).find? (· != 0) = es.find? (· != 0)) (fun i => es.length - i) (0) ?_ ?_ ?_
  · simp only [go_sem, Nat.reduceLT, Nat.reduceLeDiff, Nat.reduceAdd, Nat.reduceSub, Nat.reduceMul, Nat.reduceEqDiff, Nat.reduceBEq, Int.reduceLE, Int.reduceLT, Int.reduceNeg, Int.reduceAdd, Int.reduceSub, Int.reduceToNat, reduceCtorEq, ↓reduceIte, List.length_map]
    first | rfl | exact ⟨rfl, rfl⟩
  · simp
  intro i ⟨hi, hinv⟩
  refine Wp.seqR fun K4 hK4 => ?_
  simp only [go_sem, Nat.reduceLT, Nat.reduceLeDiff, Nat.reduceAdd, Nat.reduceSub, Nat.reduceMul, Nat.reduceEqDiff, Nat.reduceBEq, Int.reduceLE, Int.reduceLT, Int.reduceNeg, Int.reduceAdd, Int.reduceSub, Int.reduceToNat, reduceCtorEq, ↓reduceIte]
  refine hK4 _ _ ?_
  refine Wp.seq fun K5 hK5 => ?_
  refine Wp.cond rfl ⟨⟩ (fun hc => ?_) (fun hc => ?_)
  · have hlt : i < es.length := by simpa using hc
    have hrow : (ints es).getD i [] = [I es[i]] := by simp [ints, List.getD_eq_getElem?_getD, hlt]
    refine Wp.skip ?_
    simp only [thenQ, blockQ, ↓reduceIte]
    refine hK5 _ _ ?_
    refine Wp.seq fun K6 hK6 => ?_
    refine Wp.block ?_
    refine Wp.seqR fun K7 hK7 => ?_
    simp only [go_sem, Nat.reduceLT, Nat.reduceLeDiff, Nat.reduceAdd, Nat.reduceSub, Nat.reduceMul, Nat.reduceEqDiff, Nat.reduceBEq, Int.reduceLE, Int.reduceLT, Int.reduceNeg, Int.reduceAdd, Int.reduceSub, Int.reduceToNat, reduceCtorEq, ↓reduceIte, Int.toNat_natCast, hrow]
    refine ⟨⟨by omega, by simpa using hlt⟩, hK7 _ _ ?_⟩
    refine Wp.seqR fun K8 hK8 => ?_
    simp only [go_sem, Nat.reduceLT, Nat.reduceLeDiff, Nat.reduceAdd, Nat.reduceSub, Nat.reduceMul, Nat.reduceEqDiff, Nat.reduceBEq, Int.reduceLE, Int.reduceLT, Int.reduceNeg, Int.reduceAdd, Int.reduceSub, Int.reduceToNat, reduceCtorEq, ↓reduceIte]
    refine hK8 _ _ ?_
    refine Wp.cond rfl ⟨⟩ (fun h1 => ?_) (fun h1 => ?_)
    · have h2 : (es[i] != 0) = true := by simpa using h1
      refine Wp.seqR fun K9 hK9 => ?_
      simp only [go_sem, Nat.reduceLT, Nat.reduceLeDiff, Nat.reduceAdd, Nat.reduceSub, Nat.reduceMul, Nat.reduceEqDiff, Nat.reduceBEq, Int.reduceLE, Int.reduceLT, Int.reduceNeg, Int.reduceAdd, Int.reduceSub, Int.reduceToNat, reduceCtorEq, ↓reduceIte]
      refine hK9 _ _ ?_
      refine Wp.ret ?_
      simp only [thenQ, blockQ]
      refine retQ_ret ?_
      simp only [go_sem, Nat.reduceLT, Nat.reduceLeDiff, Nat.reduceAdd, Nat.reduceSub, Nat.reduceMul, Nat.reduceEqDiff, Nat.reduceBEq, Int.reduceLE, Int.reduceLT, Int.reduceNeg, Int.reduceAdd, Int.reduceSub, Int.reduceToNat, reduceCtorEq, ↓reduceIte]
      rw [← hinv, List.drop_eq_getElem_cons hlt, List.find?_cons, h2]; rfl
    · have h2 : (es[i] != 0) = false := by simpa using h1
      refine Wp.skip ?_
      simp only [thenQ, blockQ, ↓reduceIte]
      refine hK6 _ _ ?_
      refine Wp.fact 5 fun hlen => ?_
      simp only [go_sem, Nat.reduceLT, Nat.reduceLeDiff, Nat.reduceAdd, Nat.reduceSub, Nat.reduceMul, Nat.reduceEqDiff, Nat.reduceBEq, Int.reduceLE, Int.reduceLT, Int.reduceNeg, Int.reduceAdd, Int.reduceSub, Int.reduceToNat, reduceCtorEq, ↓reduceIte, List.length_map, Lim] at hlen
      have hw : IntKind.i64.wrap ((i : Int) + 1) = ((i + 1 : Nat) : Int) := by rw [wrap64 (by omega) (by omega)]; omega
      refine Wp.region fun K10 hK10 => ?_
      simp only [go_sem, Nat.reduceLT, Nat.reduceLeDiff, Nat.reduceAdd, Nat.reduceSub, Nat.reduceMul, Nat.reduceEqDiff, Nat.reduceBEq, Int.reduceLE, Int.reduceLT, Int.reduceNeg, Int.reduceAdd, Int.reduceSub, Int.reduceToNat, reduceCtorEq, ↓reduceIte, hw]
      refine hK10 _ _ ?_
      simp only [thenQ, blockQ, ↓reduceIte]
      refine ⟨i + 1, ⟨by omega, by rw [← hinv, List.drop_eq_getElem_cons hlt, List.find?_cons, h2]⟩, by omega, ?_⟩
      simp only [go_sem, Nat.reduceLT, Nat.reduceLeDiff, Nat.reduceAdd, Nat.reduceSub, Nat.reduceMul, Nat.reduceEqDiff, Nat.reduceBEq, Int.reduceLE, Int.reduceLT, Int.reduceNeg, Int.reduceAdd, Int.reduceSub, Int.reduceToNat, reduceCtorEq, ↓reduceIte]
  · have hall : es.find? (· != 0) = none := by
      have : i = es.length := by simp at hc; omega
      rw [← hinv, this]; simp
    refine Wp.exit ?_
    simp only [thenQ, blockQ, ↓reduceIte]
    refine hK2 _ _ ?_
    refine Wp.seqR fun K11 hK11 => ?_
    simp only [go_sem, Nat.reduceLT, Nat.reduceLeDiff, Nat.reduceAdd, Nat.reduceSub, Nat.reduceMul, Nat.reduceEqDiff, Nat.reduceBEq, Int.reduceLE, Int.reduceLT, Int.reduceNeg, Int.reduceAdd, Int.reduceSub, Int.reduceToNat, reduceCtorEq, ↓reduceIte]
    refine hK11 _ _ ?_
    refine Wp.ret ?_
    refine retQ_ret ?_
    simp only [go_sem, Nat.reduceLT, Nat.reduceLeDiff, Nat.reduceAdd, Nat.reduceSub, Nat.reduceMul, Nat.reduceEqDiff, Nat.reduceBEq, Int.reduceLE, Int.reduceLT, Int.reduceNeg, Int.reduceAdd, Int.reduceSub, Int.reduceToNat, reduceCtorEq, ↓reduceIte]
    rw [hall]; rfl
theorem waysError_ok (ws : List (Int × Int × Int)) (ns : List Int) : Does Try.prog 8 [.p (.l (ways ws)), .p (.l (ints ns))] [] (fun r X => r = .p (I (checkWays ws ns)) ∧ X = []) := by
  refine Does.of_wp 0 81 [.tmp 4] Try.func8 rfl (by decide) rfl rfl (Nat.le_of_ble_eq_true rfl) fun B => ?_
  refine Wp.seqR fun K1 hK1 => ?_
  simp only [go_sem, Nat.reduceLT, Nat.reduceLeDiff, Nat.reduceAdd, Nat.reduceSub, Nat.reduceMul, Nat.reduceEqDiff, Nat.reduceBEq, Int.reduceLE, Int.reduceLT, Int.reduceNeg, Int.reduceAdd, Int.reduceSub, Int.reduceToNat, reduceCtorEq, ↓reduceIte]
  refine hK1 _ _ ?_
  refine Wp.seq fun K2 hK2 => ?_
  refine Wp.seqR fun K3 hK3 => ?_
  simp only [go_sem, Nat.reduceLT, Nat.reduceLeDiff, Nat.reduceAdd, Nat.reduceSub, Nat.reduceMul, Nat.reduceEqDiff, Nat.reduceBEq, Int.reduceLE, Int.reduceLT, Int.reduceNeg, Int.reduceAdd, Int.reduceSub, Int.reduceToNat, reduceCtorEq, ↓reduceIte]
  refine hK3 _ _ ?_
  refine Wp.cond rfl ⟨⟩ (fun hc => ?_) (fun hc => ?_)
  · refine Wp.seqR fun K4 hK4 => ?_
    simp only [go_sem, Nat.reduceLT, Nat.reduceLeDiff, Nat.reduceAdd, Nat.reduceSub, Nat.reduceMul, Nat.reduceEqDiff, Nat.reduceBEq, Int.reduceLE, Int.reduceLT, Int.reduceNeg, Int.reduceAdd, Int.reduceSub, Int.reduceToNat, reduceCtorEq, ↓reduceIte]
    refine hK4 _ _ ?_
    refine Wp.ret ?_
    simp only [thenQ, blockQ]
    refine retQ_ret ?_
    simp only [go_sem, Nat.reduceLT, Nat.reduceLeDiff, Nat.reduceAdd, Nat.reduceSub, Nat.reduceMul, Nat.reduceEqDiff, Nat.reduceBEq, Int.reduceLE, Int.reduceLT, Int.reduceNeg, Int.reduceAdd, Int.reduceSub, Int.reduceToNat, reduceCtorEq, ↓reduceIte]
    unfold checkWays
    rw [if_pos (by simp at hc; omega)]
  · refine Wp.skip ?_
    simp only [thenQ, blockQ, ↓reduceIte]
    refine hK2 _ _ ?_
    refine Wp.seq fun K5 hK5 => ?_
    refine Wp.seqR fun K6 hK6 => ?_
    simp only [go_sem, Nat.reduceLT, Nat.reduceLeDiff, Nat.reduceAdd, Nat.reduceSub, Nat.reduceMul, Nat.reduceEqDiff, Nat.reduceBEq, Int.reduceLE, Int.reduceLT, Int.reduceNeg, Int.reduceAdd, Int.reduceSub, Int.reduceToNat, reduceCtorEq, ↓reduceIte]
    refine hK6 _ _ ?_
    refine Wp.block ?_
    refine Wp.loop (S := Nat) (fun i => [(20, .p (I i)), (19, .p (I ns.length)), (18, .p (.l (ints ns))), (0, .p (.l (ways ws))), (1, .p (.l (ints ns)))]) (fun _ => []) (fun i => i ≤ ns.length ∧ (ns.drop i).any (fun n => out n 0 1000000000) = ns.any (fun n => out n 0 1000000000)) (fun i => ns.length - i) (0) ?_ ?_ ?_
    · simp only [go_sem, Nat.reduceLT, Nat.reduceLeDiff, Nat.reduceAdd, Nat.reduceSub, Nat.reduceMul, Nat.reduceEqDiff, Nat.reduceBEq, Int.reduceLE, Int.reduceLT, Int.reduceNeg, Int.reduceAdd, Int.reduceSub, Int.reduceToNat, reduceCtorEq, ↓reduceIte, List.length_map]
      first | rfl | exact ⟨rfl, rfl⟩
    · simp
    intro i ⟨hi, hinv⟩
    refine Wp.seqR fun K7 hK7 => ?_
    simp only [go_sem, Nat.reduceLT, Nat.reduceLeDiff, Nat.reduceAdd, Nat.reduceSub, Nat.reduceMul, Nat.reduceEqDiff, Nat.reduceBEq, Int.reduceLE, Int.reduceLT, Int.reduceNeg, Int.reduceAdd, Int.reduceSub, Int.reduceToNat, reduceCtorEq, ↓reduceIte]
    refine hK7 _ _ ?_
    refine Wp.seq fun K8 hK8 => ?_
    refine Wp.cond rfl ⟨⟩ (fun hc1 => ?_) (fun hc1 => ?_)
    · have hlt : i < ns.length := by simpa using hc1
      have hrow : (ints ns).getD i [] = [I ns[i]] := by simp [ints, List.getD_eq_getElem?_getD, hlt]
      have hany : (ns.drop i).any (fun n => out n 0 1000000000) = (out ns[i] 0 1000000000 || (ns.drop (i + 1)).any (fun n => out n 0 1000000000)) := by
        rw [List.drop_eq_getElem_cons hlt, List.any_cons]
      refine Wp.skip ?_
      simp only [thenQ, blockQ, ↓reduceIte]
      refine hK8 _ _ ?_
      refine Wp.seq fun K9 hK9 => ?_
      refine Wp.block ?_
      refine Wp.seqR fun K10 hK10 => ?_
      simp only [go_sem, Nat.reduceLT, Nat.reduceLeDiff, Nat.reduceAdd, Nat.reduceSub, Nat.reduceMul, Nat.reduceEqDiff, Nat.reduceBEq, Int.reduceLE, Int.reduceLT, Int.reduceNeg, Int.reduceAdd, Int.reduceSub, Int.reduceToNat, reduceCtorEq, ↓reduceIte, Int.toNat_natCast, hrow]
      refine ⟨⟨by omega, by simpa using hlt⟩, hK10 _ _ ?_⟩
      refine Wp.seqR fun K11 hK11 => ?_
      simp only [go_sem, Nat.reduceLT, Nat.reduceLeDiff, Nat.reduceAdd, Nat.reduceSub, Nat.reduceMul, Nat.reduceEqDiff, Nat.reduceBEq, Int.reduceLE, Int.reduceLT, Int.reduceNeg, Int.reduceAdd, Int.reduceSub, Int.reduceToNat, reduceCtorEq, ↓reduceIte]
      refine hK11 _ _ ?_
      refine Wp.cond rfl ⟨⟩ (fun ho => ?_) (fun ho => ?_)
      · refine Wp.seqR fun K12 hK12 => ?_
        simp only [go_sem, Nat.reduceLT, Nat.reduceLeDiff, Nat.reduceAdd, Nat.reduceSub, Nat.reduceMul, Nat.reduceEqDiff, Nat.reduceBEq, Int.reduceLE, Int.reduceLT, Int.reduceNeg, Int.reduceAdd, Int.reduceSub, Int.reduceToNat, reduceCtorEq, ↓reduceIte]
        refine hK12 _ _ ?_
        refine Wp.ret ?_
        simp only [thenQ, blockQ]
        refine retQ_ret ?_
        simp only [go_sem, Nat.reduceLT, Nat.reduceLeDiff, Nat.reduceAdd, Nat.reduceSub, Nat.reduceMul, Nat.reduceEqDiff, Nat.reduceBEq, Int.reduceLE, Int.reduceLT, Int.reduceNeg, Int.reduceAdd, Int.reduceSub, Int.reduceToNat, reduceCtorEq, ↓reduceIte]
        unfold checkWays
        rw [if_neg (by simp at *; omega), if_pos (by rw [← hinv, hany, show out ns[i] 0 1000000000 = true from ho]; rfl)]
      · refine Wp.skip ?_
        simp only [thenQ, blockQ, ↓reduceIte]
        refine hK9 _ _ ?_
        refine Wp.fact 18 fun hlen => ?_
        simp only [go_sem, Nat.reduceLT, Nat.reduceLeDiff, Nat.reduceAdd, Nat.reduceSub, Nat.reduceMul, Nat.reduceEqDiff, Nat.reduceBEq, Int.reduceLE, Int.reduceLT, Int.reduceNeg, Int.reduceAdd, Int.reduceSub, Int.reduceToNat, reduceCtorEq, ↓reduceIte, List.length_map, Lim] at hlen
        have hw : IntKind.i64.wrap ((i : Int) + 1) = ((i + 1 : Nat) : Int) := by rw [wrap64 (by omega) (by omega)]; omega
        refine Wp.region fun K13 hK13 => ?_
        simp only [go_sem, Nat.reduceLT, Nat.reduceLeDiff, Nat.reduceAdd, Nat.reduceSub, Nat.reduceMul, Nat.reduceEqDiff, Nat.reduceBEq, Int.reduceLE, Int.reduceLT, Int.reduceNeg, Int.reduceAdd, Int.reduceSub, Int.reduceToNat, reduceCtorEq, ↓reduceIte, hw]
        refine hK13 _ _ ?_
        simp only [thenQ, blockQ, ↓reduceIte]
        refine ⟨i + 1, ⟨by omega, by rw [← hinv, hany, show out ns[i] 0 1000000000 = false from ho]; rfl⟩, by omega, ?_⟩
        simp only [go_sem, Nat.reduceLT, Nat.reduceLeDiff, Nat.reduceAdd, Nat.reduceSub, Nat.reduceMul, Nat.reduceEqDiff, Nat.reduceBEq, Int.reduceLE, Int.reduceLT, Int.reduceNeg, Int.reduceAdd, Int.reduceSub, Int.reduceToNat, reduceCtorEq, ↓reduceIte]
    · have hall : ns.any (fun n => out n 0 1000000000) = false := by
        have : i = ns.length := by simp at hc1; omega
        rw [← hinv, this]; simp
      refine Wp.exit ?_
      simp only [thenQ, blockQ, ↓reduceIte]
      refine hK5 _ _ ?_
      refine Wp.seq fun K14 hK14 => ?_
      refine Wp.fact 18 fun hlen => ?_
      simp only [go_sem, Nat.reduceLT, Nat.reduceLeDiff, Nat.reduceAdd, Nat.reduceSub, Nat.reduceMul, Nat.reduceEqDiff, Nat.reduceBEq, Int.reduceLE, Int.reduceLT, Int.reduceNeg, Int.reduceAdd, Int.reduceSub, Int.reduceToNat, reduceCtorEq, ↓reduceIte, List.length_map, Lim] at hlen
      refine Wp.seqR fun K15 hK15 => ?_
      simp only [go_sem, Nat.reduceLT, Nat.reduceLeDiff, Nat.reduceAdd, Nat.reduceSub, Nat.reduceMul, Nat.reduceEqDiff, Nat.reduceBEq, Int.reduceLE, Int.reduceLT, Int.reduceNeg, Int.reduceAdd, Int.reduceSub, Int.reduceToNat, reduceCtorEq, ↓reduceIte, List.length_map]
      refine hK15 _ _ ?_
      refine Wp.block ?_
      refine Wp.loop (S := Nat) (fun i => [(33, .p (I i)), (32, .p (I ws.length)), (31, .p (.l (ways ws))), (1, .p (.l (ints ns)))]) (fun _ => []) (fun i => i ≤ ws.length ∧ (ws.drop i).findSome? (wayErr ns.length) = ws.findSome? (wayErr ns.length)) (fun i => ws.length - i) (0) ?_ ?_ ?_
      · simp only [go_sem, Nat.reduceLT, Nat.reduceLeDiff, Nat.reduceAdd, Nat.reduceSub, Nat.reduceMul, Nat.reduceEqDiff, Nat.reduceBEq, Int.reduceLE, Int.reduceLT, Int.reduceNeg, Int.reduceAdd, Int.reduceSub, Int.reduceToNat, reduceCtorEq, ↓reduceIte, List.length_map]
        first | rfl | exact ⟨rfl, rfl⟩
      · simp
      intro j ⟨hj, hjinv⟩
      refine Wp.seqR fun K16 hK16 => ?_
      simp only [go_sem, Nat.reduceLT, Nat.reduceLeDiff, Nat.reduceAdd, Nat.reduceSub, Nat.reduceMul, Nat.reduceEqDiff, Nat.reduceBEq, Int.reduceLE, Int.reduceLT, Int.reduceNeg, Int.reduceAdd, Int.reduceSub, Int.reduceToNat, reduceCtorEq, ↓reduceIte]
      refine hK16 _ _ ?_
      refine Wp.seq fun K17 hK17 => ?_
      refine Wp.cond rfl ⟨⟩ (fun hc2 => ?_) (fun hc2 => ?_)
      · have hlt : j < ws.length := by simpa using hc2
        have hrow : (ways ws).getD j [] = [I ws[j].1, I ws[j].2.1, I ws[j].2.2] := by simp [ways, List.getD_eq_getElem?_getD, hlt]
        have hfs : (ws.drop j).findSome? (wayErr ns.length) = match wayErr ns.length ws[j] with | some e => some e | none => (ws.drop (j + 1)).findSome? (wayErr ns.length) := by
          rw [List.drop_eq_getElem_cons hlt, List.findSome?_cons]
          cases wayErr ns.length ws[j] <;> rfl
        have fin : ∀ e, wayErr ns.length ws[j] = some e → e = checkWays ws ns := fun e he => by
          unfold checkWays
          rw [if_neg (by simp at *; omega), if_neg (by rw [hall]; simp), ← hjinv, hfs, he]; rfl
        refine Wp.skip ?_
        simp only [thenQ, blockQ, ↓reduceIte]
        refine hK17 _ _ ?_
        refine Wp.seq fun K18 hK18 => ?_
        refine Wp.block ?_
        refine Wp.seqR fun K19 hK19 => ?_
        simp only [go_sem, Nat.reduceLT, Nat.reduceLeDiff, Nat.reduceAdd, Nat.reduceSub, Nat.reduceMul, Nat.reduceEqDiff, Nat.reduceBEq, Int.reduceLE, Int.reduceLT, Int.reduceNeg, Int.reduceAdd, Int.reduceSub, Int.reduceToNat, reduceCtorEq, ↓reduceIte, Int.toNat_natCast, hrow]
        refine ⟨⟨by omega, by simpa using hlt⟩, hK19 _ _ ?_⟩
        refine Wp.seqD (plan := [(0, none), (1, none), (2, none), (3, none), (4, none), (5, none), (6, none), (7, none), (8, none), (9, none), (10, none), (11, none), (12, none), (13, none), (14, none), (15, none), (16, none), (17, none), (18, none), (19, none), (20, none), (21, none), (22, none), (23, none), (24, none), (25, none), (26, none), (27, none), (28, none), (29, none), (30, none), (31, none), (32, none), (33, none), (34, none), (35, none), (36, none), (37, none), (38, some []), (39, none), (40, none)]) (by kernel_rfl) rfl (by kernel_rfl) fun K20 hK20 => ?_
        simp only [go_sem, Nat.reduceLT, Nat.reduceLeDiff, Nat.reduceAdd, Nat.reduceSub, Nat.reduceMul, Nat.reduceEqDiff, Nat.reduceBEq, Int.reduceLE, Int.reduceLT, Int.reduceNeg, Int.reduceAdd, Int.reduceSub, Int.reduceToNat, reduceCtorEq, ↓reduceIte, List.length_map]
        refine Dr.callU (av := ?av21) (o := ?o21) (when_ok ?b21 ?e21) ?hk21 ?ha21 ?hb21 ?hp21 ?hok21 ?hf21 ?cont21
        case hk21 =>
          simp only [go_sem, Nat.reduceLT, Nat.reduceLeDiff, Nat.reduceAdd, Nat.reduceSub, Nat.reduceMul, Nat.reduceEqDiff, Nat.reduceBEq, Int.reduceLE, Int.reduceLT, Int.reduceNeg, Int.reduceAdd, Int.reduceSub, Int.reduceToNat, reduceCtorEq, ↓reduceIte, List.length_map]
          exact Is.mk
        case ha21 =>
          simp only [go_sem, Nat.reduceLT, Nat.reduceLeDiff, Nat.reduceAdd, Nat.reduceSub, Nat.reduceMul, Nat.reduceEqDiff, Nat.reduceBEq, Int.reduceLE, Int.reduceLT, Int.reduceNeg, Int.reduceAdd, Int.reduceSub, Int.reduceToNat, reduceCtorEq, ↓reduceIte, List.length_map]
          exact Is.mk
        case hb21 =>
          simp only [go_sem, Nat.reduceLT, Nat.reduceLeDiff, Nat.reduceAdd, Nat.reduceSub, Nat.reduceMul, Nat.reduceEqDiff, Nat.reduceBEq, Int.reduceLE, Int.reduceLT, Int.reduceNeg, Int.reduceAdd, Int.reduceSub, Int.reduceToNat, reduceCtorEq, ↓reduceIte, List.length_map]
          exact Is.mk
        case hp21 =>
          simp only [go_sem, Nat.reduceLT, Nat.reduceLeDiff, Nat.reduceAdd, Nat.reduceSub, Nat.reduceMul, Nat.reduceEqDiff, Nat.reduceBEq, Int.reduceLE, Int.reduceLT, Int.reduceNeg, Int.reduceAdd, Int.reduceSub, Int.reduceToNat, reduceCtorEq, ↓reduceIte, List.length_map]
          exact Is.mk
        case hok21 =>
          simp only [go_sem, Nat.reduceLT, Nat.reduceLeDiff, Nat.reduceAdd, Nat.reduceSub, Nat.reduceMul, Nat.reduceEqDiff, Nat.reduceBEq, Int.reduceLE, Int.reduceLT, Int.reduceNeg, Int.reduceAdd, Int.reduceSub, Int.reduceToNat, reduceCtorEq, ↓reduceIte, List.length_map]
        case hf21 =>
          simp only [go_sem, Nat.reduceLT, Nat.reduceLeDiff, Nat.reduceAdd, Nat.reduceSub, Nat.reduceMul, Nat.reduceEqDiff, Nat.reduceBEq, Int.reduceLE, Int.reduceLT, Int.reduceNeg, Int.reduceAdd, Int.reduceSub, Int.reduceToNat, reduceCtorEq, ↓reduceIte, List.length_map]
          exact Is.mk
        simp only [go_sem, Nat.reduceLT, Nat.reduceLeDiff, Nat.reduceAdd, Nat.reduceSub, Nat.reduceMul, Nat.reduceEqDiff, Nat.reduceBEq, Int.reduceLE, Int.reduceLT, Int.reduceNeg, Int.reduceAdd, Int.reduceSub, Int.reduceToNat, reduceCtorEq, ↓reduceIte, List.length_map]
        refine Dr.callU (av := ?av22) (o := ?o22) (when_ok ?b22 ?e22) ?hk22 ?ha22 ?hb22 ?hp22 ?hok22 ?hf22 ?cont22
        case hk22 =>
          simp only [go_sem, Nat.reduceLT, Nat.reduceLeDiff, Nat.reduceAdd, Nat.reduceSub, Nat.reduceMul, Nat.reduceEqDiff, Nat.reduceBEq, Int.reduceLE, Int.reduceLT, Int.reduceNeg, Int.reduceAdd, Int.reduceSub, Int.reduceToNat, reduceCtorEq, ↓reduceIte, List.length_map]
          exact Is.mk
        case ha22 =>
          simp only [go_sem, Nat.reduceLT, Nat.reduceLeDiff, Nat.reduceAdd, Nat.reduceSub, Nat.reduceMul, Nat.reduceEqDiff, Nat.reduceBEq, Int.reduceLE, Int.reduceLT, Int.reduceNeg, Int.reduceAdd, Int.reduceSub, Int.reduceToNat, reduceCtorEq, ↓reduceIte, List.length_map]
          exact Is.mk
        case hb22 =>
          simp only [go_sem, Nat.reduceLT, Nat.reduceLeDiff, Nat.reduceAdd, Nat.reduceSub, Nat.reduceMul, Nat.reduceEqDiff, Nat.reduceBEq, Int.reduceLE, Int.reduceLT, Int.reduceNeg, Int.reduceAdd, Int.reduceSub, Int.reduceToNat, reduceCtorEq, ↓reduceIte, List.length_map]
          exact Is.mk
        case hp22 =>
          simp only [go_sem, Nat.reduceLT, Nat.reduceLeDiff, Nat.reduceAdd, Nat.reduceSub, Nat.reduceMul, Nat.reduceEqDiff, Nat.reduceBEq, Int.reduceLE, Int.reduceLT, Int.reduceNeg, Int.reduceAdd, Int.reduceSub, Int.reduceToNat, reduceCtorEq, ↓reduceIte, List.length_map]
          exact Is.mk
        case hok22 =>
          simp only [go_sem, Nat.reduceLT, Nat.reduceLeDiff, Nat.reduceAdd, Nat.reduceSub, Nat.reduceMul, Nat.reduceEqDiff, Nat.reduceBEq, Int.reduceLE, Int.reduceLT, Int.reduceNeg, Int.reduceAdd, Int.reduceSub, Int.reduceToNat, reduceCtorEq, ↓reduceIte, List.length_map]
        case hf22 =>
          simp only [go_sem, Nat.reduceLT, Nat.reduceLeDiff, Nat.reduceAdd, Nat.reduceSub, Nat.reduceMul, Nat.reduceEqDiff, Nat.reduceBEq, Int.reduceLE, Int.reduceLT, Int.reduceNeg, Int.reduceAdd, Int.reduceSub, Int.reduceToNat, reduceCtorEq, ↓reduceIte, List.length_map]
          exact Is.mk
        simp only [go_sem, Nat.reduceLT, Nat.reduceLeDiff, Nat.reduceAdd, Nat.reduceSub, Nat.reduceMul, Nat.reduceEqDiff, Nat.reduceBEq, Int.reduceLE, Int.reduceLT, Int.reduceNeg, Int.reduceAdd, Int.reduceSub, Int.reduceToNat, reduceCtorEq, ↓reduceIte, List.length_map]
        refine Dr.callU (av := ?av23) (o := ?o23) (when_ok ?b23 ?e23) ?hk23 ?ha23 ?hb23 ?hp23 ?hok23 ?hf23 ?cont23
        case hk23 =>
          simp only [go_sem, Nat.reduceLT, Nat.reduceLeDiff, Nat.reduceAdd, Nat.reduceSub, Nat.reduceMul, Nat.reduceEqDiff, Nat.reduceBEq, Int.reduceLE, Int.reduceLT, Int.reduceNeg, Int.reduceAdd, Int.reduceSub, Int.reduceToNat, reduceCtorEq, ↓reduceIte, List.length_map]
          exact Is.mk
        case ha23 =>
          simp only [go_sem, Nat.reduceLT, Nat.reduceLeDiff, Nat.reduceAdd, Nat.reduceSub, Nat.reduceMul, Nat.reduceEqDiff, Nat.reduceBEq, Int.reduceLE, Int.reduceLT, Int.reduceNeg, Int.reduceAdd, Int.reduceSub, Int.reduceToNat, reduceCtorEq, ↓reduceIte, List.length_map]
          exact Is.mk
        case hb23 =>
          simp only [go_sem, Nat.reduceLT, Nat.reduceLeDiff, Nat.reduceAdd, Nat.reduceSub, Nat.reduceMul, Nat.reduceEqDiff, Nat.reduceBEq, Int.reduceLE, Int.reduceLT, Int.reduceNeg, Int.reduceAdd, Int.reduceSub, Int.reduceToNat, reduceCtorEq, ↓reduceIte, List.length_map]
          exact Is.mk
        case hp23 =>
          simp only [go_sem, Nat.reduceLT, Nat.reduceLeDiff, Nat.reduceAdd, Nat.reduceSub, Nat.reduceMul, Nat.reduceEqDiff, Nat.reduceBEq, Int.reduceLE, Int.reduceLT, Int.reduceNeg, Int.reduceAdd, Int.reduceSub, Int.reduceToNat, reduceCtorEq, ↓reduceIte, List.length_map]
          exact Is.mk
        case hok23 =>
          simp only [go_sem, Nat.reduceLT, Nat.reduceLeDiff, Nat.reduceAdd, Nat.reduceSub, Nat.reduceMul, Nat.reduceEqDiff, Nat.reduceBEq, Int.reduceLE, Int.reduceLT, Int.reduceNeg, Int.reduceAdd, Int.reduceSub, Int.reduceToNat, reduceCtorEq, ↓reduceIte, List.length_map]
        case hf23 =>
          simp only [go_sem, Nat.reduceLT, Nat.reduceLeDiff, Nat.reduceAdd, Nat.reduceSub, Nat.reduceMul, Nat.reduceEqDiff, Nat.reduceBEq, Int.reduceLE, Int.reduceLT, Int.reduceNeg, Int.reduceAdd, Int.reduceSub, Int.reduceToNat, reduceCtorEq, ↓reduceIte, List.length_map]
          exact Is.mk
        simp only [go_sem, Nat.reduceLT, Nat.reduceLeDiff, Nat.reduceAdd, Nat.reduceSub, Nat.reduceMul, Nat.reduceEqDiff, Nat.reduceBEq, Int.reduceLE, Int.reduceLT, Int.reduceNeg, Int.reduceAdd, Int.reduceSub, Int.reduceToNat, reduceCtorEq, ↓reduceIte, List.length_map]
        refine Dr.callU (av := ?av24) (o := ?o24) (first_ok [?x24, ?y24, ?z24]) ?hk24 ?ha24 ?hb24 ?hp24 ?hok24 ?hf24 ?cont24
        case hk24 =>
          simp only [go_sem, Nat.reduceLT, Nat.reduceLeDiff, Nat.reduceAdd, Nat.reduceSub, Nat.reduceMul, Nat.reduceEqDiff, Nat.reduceBEq, Int.reduceLE, Int.reduceLT, Int.reduceNeg, Int.reduceAdd, Int.reduceSub, Int.reduceToNat, reduceCtorEq, ↓reduceIte, List.length_map]
          exact Is.mk
        case ha24 =>
          simp only [go_sem, Nat.reduceLT, Nat.reduceLeDiff, Nat.reduceAdd, Nat.reduceSub, Nat.reduceMul, Nat.reduceEqDiff, Nat.reduceBEq, Int.reduceLE, Int.reduceLT, Int.reduceNeg, Int.reduceAdd, Int.reduceSub, Int.reduceToNat, reduceCtorEq, ↓reduceIte, List.length_map]
          exact Is.mk
        case hb24 =>
          simp only [go_sem, Nat.reduceLT, Nat.reduceLeDiff, Nat.reduceAdd, Nat.reduceSub, Nat.reduceMul, Nat.reduceEqDiff, Nat.reduceBEq, Int.reduceLE, Int.reduceLT, Int.reduceNeg, Int.reduceAdd, Int.reduceSub, Int.reduceToNat, reduceCtorEq, ↓reduceIte, List.length_map]
          exact Is.mk
        case hp24 =>
          simp only [go_sem, Nat.reduceLT, Nat.reduceLeDiff, Nat.reduceAdd, Nat.reduceSub, Nat.reduceMul, Nat.reduceEqDiff, Nat.reduceBEq, Int.reduceLE, Int.reduceLT, Int.reduceNeg, Int.reduceAdd, Int.reduceSub, Int.reduceToNat, reduceCtorEq, ↓reduceIte, List.length_map]
          exact Is.mk
        case hok24 =>
          simp only [go_sem, Nat.reduceLT, Nat.reduceLeDiff, Nat.reduceAdd, Nat.reduceSub, Nat.reduceMul, Nat.reduceEqDiff, Nat.reduceBEq, Int.reduceLE, Int.reduceLT, Int.reduceNeg, Int.reduceAdd, Int.reduceSub, Int.reduceToNat, reduceCtorEq, ↓reduceIte, List.length_map]
        case hf24 =>
          simp only [go_sem, Nat.reduceLT, Nat.reduceLeDiff, Nat.reduceAdd, Nat.reduceSub, Nat.reduceMul, Nat.reduceEqDiff, Nat.reduceBEq, Int.reduceLE, Int.reduceLT, Int.reduceNeg, Int.reduceAdd, Int.reduceSub, Int.reduceToNat, reduceCtorEq, ↓reduceIte, List.length_map]
          exact Is.mk
        simp only [go_sem, Nat.reduceLT, Nat.reduceLeDiff, Nat.reduceAdd, Nat.reduceSub, Nat.reduceMul, Nat.reduceEqDiff, Nat.reduceBEq, Int.reduceLE, Int.reduceLT, Int.reduceNeg, Int.reduceAdd, Int.reduceSub, Int.reduceToNat, reduceCtorEq, ↓reduceIte, List.length_map]
        refine hK20 _ _ ?_
        refine Wp.seqR fun K25 hK25 => ?_
        simp only [go_sem, Nat.reduceLT, Nat.reduceLeDiff, Nat.reduceAdd, Nat.reduceSub, Nat.reduceMul, Nat.reduceEqDiff, Nat.reduceBEq, Int.reduceLE, Int.reduceLT, Int.reduceNeg, Int.reduceAdd, Int.reduceSub, Int.reduceToNat, reduceCtorEq, ↓reduceIte]
        refine hK25 _ _ ?_
        refine Wp.cond rfl ⟨⟩ (fun hc78 => ?_) (fun hc78 => ?_)
        · refine Wp.seqR fun K26 hK26 => ?_
          simp only [go_sem, Nat.reduceLT, Nat.reduceLeDiff, Nat.reduceAdd, Nat.reduceSub, Nat.reduceMul, Nat.reduceEqDiff, Nat.reduceBEq, Int.reduceLE, Int.reduceLT, Int.reduceNeg, Int.reduceAdd, Int.reduceSub, Int.reduceToNat, reduceCtorEq, ↓reduceIte]
          refine hK26 _ _ ?_
          refine Wp.ret ?_
          simp only [thenQ, blockQ]
          refine retQ_ret ?_
          simp only [go_sem, Nat.reduceLT, Nat.reduceLeDiff, Nat.reduceAdd, Nat.reduceSub, Nat.reduceMul, Nat.reduceEqDiff, Nat.reduceBEq, Int.reduceLE, Int.reduceLT, Int.reduceNeg, Int.reduceAdd, Int.reduceSub, Int.reduceToNat, reduceCtorEq, ↓reduceIte]
          rw [ref_way] at hc78 ⊢
          cases hx : wayErr ns.length ws[j] with
          | none => rw [hx] at hc78; simp at hc78
          | some e => rw [← fin e hx]; rfl
        · refine Wp.skip ?_
          simp only [thenQ, blockQ, ↓reduceIte]
          refine hK18 _ _ ?_
          refine Wp.fact 31 fun hlen2 => ?_
          simp only [go_sem, Nat.reduceLT, Nat.reduceLeDiff, Nat.reduceAdd, Nat.reduceSub, Nat.reduceMul, Nat.reduceEqDiff, Nat.reduceBEq, Int.reduceLE, Int.reduceLT, Int.reduceNeg, Int.reduceAdd, Int.reduceSub, Int.reduceToNat, reduceCtorEq, ↓reduceIte, List.length_map, Lim] at hlen2
          have hw2 : IntKind.i64.wrap ((j : Int) + 1) = ((j + 1 : Nat) : Int) := by rw [wrap64 (by omega) (by omega)]; omega
          refine Wp.region fun K27 hK27 => ?_
          simp only [go_sem, Nat.reduceLT, Nat.reduceLeDiff, Nat.reduceAdd, Nat.reduceSub, Nat.reduceMul, Nat.reduceEqDiff, Nat.reduceBEq, Int.reduceLE, Int.reduceLT, Int.reduceNeg, Int.reduceAdd, Int.reduceSub, Int.reduceToNat, reduceCtorEq, ↓reduceIte, hw2]
          refine hK27 _ _ ?_
          simp only [thenQ, blockQ, ↓reduceIte]
          have hn : wayErr ns.length ws[j] = none := by
            cases hx : wayErr ns.length ws[j] with
            | none => rfl
            | some e => rw [ref_way, hx] at hc78; simp at hc78; exact absurd hc78 (way_ne _ _ _ hx)
          refine ⟨j + 1, ⟨by omega, by rw [← hjinv, hfs, hn]⟩, by omega, ?_⟩
          simp only [go_sem, Nat.reduceLT, Nat.reduceLeDiff, Nat.reduceAdd, Nat.reduceSub, Nat.reduceMul, Nat.reduceEqDiff, Nat.reduceBEq, Int.reduceLE, Int.reduceLT, Int.reduceNeg, Int.reduceAdd, Int.reduceSub, Int.reduceToNat, reduceCtorEq, ↓reduceIte]
      · refine Wp.exit ?_
        simp only [thenQ, blockQ, ↓reduceIte]
        refine hK14 _ _ ?_
        refine Wp.seqR fun K28 hK28 => ?_
        simp only [go_sem, Nat.reduceLT, Nat.reduceLeDiff, Nat.reduceAdd, Nat.reduceSub, Nat.reduceMul, Nat.reduceEqDiff, Nat.reduceBEq, Int.reduceLE, Int.reduceLT, Int.reduceNeg, Int.reduceAdd, Int.reduceSub, Int.reduceToNat, reduceCtorEq, ↓reduceIte]
        refine hK28 _ _ ?_
        refine Wp.ret ?_
        refine retQ_ret ?_
        simp only [go_sem, Nat.reduceLT, Nat.reduceLeDiff, Nat.reduceAdd, Nat.reduceSub, Nat.reduceMul, Nat.reduceEqDiff, Nat.reduceBEq, Int.reduceLE, Int.reduceLT, Int.reduceNeg, Int.reduceAdd, Int.reduceSub, Int.reduceToNat, reduceCtorEq, ↓reduceIte]
        unfold checkWays
        rw [if_neg (by simp at *; omega), if_neg (by rw [hall]; simp), ← hjinv, show j = ws.length by simp at hc2; omega]
        simp
theorem small_ok (c : Int) : Does Try.prog 46 [.p (U c)] [] (fun r X => r = .p (.b (small c)) ∧ X = []) := by
  refine Does.of_wp 0 9 [.tmp 2] Try.func46 rfl (by decide) rfl rfl (Nat.le_of_ble_eq_true rfl) fun B => ?_
  refine Wp.seqR fun K1 hK1 => ?_
  simp only [go_sem, Nat.reduceLT, Nat.reduceLeDiff, Nat.reduceAdd, Nat.reduceSub, Nat.reduceMul, Nat.reduceEqDiff, Nat.reduceBEq, Int.reduceLE, Int.reduceLT, Int.reduceNeg, Int.reduceAdd, Int.reduceSub, Int.reduceToNat, reduceCtorEq, ↓reduceIte]
  refine hK1 _ _ ?_
  refine Wp.seqR fun K2 hK2 => ?_
  simp only [go_sem, Nat.reduceLT, Nat.reduceLeDiff, Nat.reduceAdd, Nat.reduceSub, Nat.reduceMul, Nat.reduceEqDiff, Nat.reduceBEq, Int.reduceLE, Int.reduceLT, Int.reduceNeg, Int.reduceAdd, Int.reduceSub, Int.reduceToNat, reduceCtorEq, ↓reduceIte]
  refine hK2 _ _ ?_
  refine Wp.ret ?_
  refine retQ_ret ?_
  simp only [go_sem, Nat.reduceLT, Nat.reduceLeDiff, Nat.reduceAdd, Nat.reduceSub, Nat.reduceMul, Nat.reduceEqDiff, Nat.reduceBEq, Int.reduceLE, Int.reduceLT, Int.reduceNeg, Int.reduceAdd, Int.reduceSub, Int.reduceToNat, reduceCtorEq, ↓reduceIte, small]
theorem digit_ok (c : Int) : Does Try.prog 47 [.p (U c)] [] (fun r X => r = .p (.b (digit c)) ∧ X = []) := by
  refine Does.of_wp 0 9 [.tmp 2] Try.func47 rfl (by decide) rfl rfl (Nat.le_of_ble_eq_true rfl) fun B => ?_
  refine Wp.seqR fun K1 hK1 => ?_
  simp only [go_sem, Nat.reduceLT, Nat.reduceLeDiff, Nat.reduceAdd, Nat.reduceSub, Nat.reduceMul, Nat.reduceEqDiff, Nat.reduceBEq, Int.reduceLE, Int.reduceLT, Int.reduceNeg, Int.reduceAdd, Int.reduceSub, Int.reduceToNat, reduceCtorEq, ↓reduceIte]
  refine hK1 _ _ ?_
  refine Wp.seqR fun K2 hK2 => ?_
  simp only [go_sem, Nat.reduceLT, Nat.reduceLeDiff, Nat.reduceAdd, Nat.reduceSub, Nat.reduceMul, Nat.reduceEqDiff, Nat.reduceBEq, Int.reduceLE, Int.reduceLT, Int.reduceNeg, Int.reduceAdd, Int.reduceSub, Int.reduceToNat, reduceCtorEq, ↓reduceIte]
  refine hK2 _ _ ?_
  refine Wp.ret ?_
  refine retQ_ret ?_
  simp only [go_sem, Nat.reduceLT, Nat.reduceLeDiff, Nat.reduceAdd, Nat.reduceSub, Nat.reduceMul, Nat.reduceEqDiff, Nat.reduceBEq, Int.reduceLE, Int.reduceLT, Int.reduceNeg, Int.reduceAdd, Int.reduceSub, Int.reduceToNat, reduceCtorEq, ↓reduceIte, digit]
theorem nameCh_ok (c : Int) : Does Try.prog 45 [.p (U c)] [] (fun r X => r = .p (.b (nameCh c)) ∧ X = []) := by
  refine Does.of_wp 0 17 [.tmp 2] Try.func45 rfl (by decide) rfl rfl (Nat.le_of_ble_eq_true rfl) fun B => ?_
  refine Wp.seqR fun K1 hK1 => ?_
  simp only [go_sem, Nat.reduceLT, Nat.reduceLeDiff, Nat.reduceAdd, Nat.reduceSub, Nat.reduceMul, Nat.reduceEqDiff, Nat.reduceBEq, Int.reduceLE, Int.reduceLT, Int.reduceNeg, Int.reduceAdd, Int.reduceSub, Int.reduceToNat, reduceCtorEq, ↓reduceIte]
  refine hK1 _ _ ?_
  refine Wp.seqR fun K2 hK2 => ?_
  simp only [go_sem, Nat.reduceLT, Nat.reduceLeDiff, Nat.reduceAdd, Nat.reduceSub, Nat.reduceMul, Nat.reduceEqDiff, Nat.reduceBEq, Int.reduceLE, Int.reduceLT, Int.reduceNeg, Int.reduceAdd, Int.reduceSub, Int.reduceToNat, reduceCtorEq, ↓reduceIte]
  refine Rg.callX (av := ?av3) (g := ?g3) (fun hg3 => small_ok c) ?ha3 ?hb3 ?hp3 ?hok3 ?hf3 ?cont3
  case ha3 =>
    simp only [go_sem, Nat.reduceLT, Nat.reduceLeDiff, Nat.reduceAdd, Nat.reduceSub, Nat.reduceMul, Nat.reduceEqDiff, Nat.reduceBEq, Int.reduceLE, Int.reduceLT, Int.reduceNeg, Int.reduceAdd, Int.reduceSub, Int.reduceToNat, reduceCtorEq, ↓reduceIte]
    exact Is.mk
  case hb3 =>
    simp only [go_sem, Nat.reduceLT, Nat.reduceLeDiff, Nat.reduceAdd, Nat.reduceSub, Nat.reduceMul, Nat.reduceEqDiff, Nat.reduceBEq, Int.reduceLE, Int.reduceLT, Int.reduceNeg, Int.reduceAdd, Int.reduceSub, Int.reduceToNat, reduceCtorEq, ↓reduceIte]
    exact Is.mk
  case hp3 =>
    simp only [go_sem, Nat.reduceLT, Nat.reduceLeDiff, Nat.reduceAdd, Nat.reduceSub, Nat.reduceMul, Nat.reduceEqDiff, Nat.reduceBEq, Int.reduceLE, Int.reduceLT, Int.reduceNeg, Int.reduceAdd, Int.reduceSub, Int.reduceToNat, reduceCtorEq, ↓reduceIte]
    exact Is.mk
  case hok3 =>
    simp only [go_sem, Nat.reduceLT, Nat.reduceLeDiff, Nat.reduceAdd, Nat.reduceSub, Nat.reduceMul, Nat.reduceEqDiff, Nat.reduceBEq, Int.reduceLE, Int.reduceLT, Int.reduceNeg, Int.reduceAdd, Int.reduceSub, Int.reduceToNat, reduceCtorEq, ↓reduceIte]
  case hf3 =>
    simp only [go_sem, Nat.reduceLT, Nat.reduceLeDiff, Nat.reduceAdd, Nat.reduceSub, Nat.reduceMul, Nat.reduceEqDiff, Nat.reduceBEq, Int.reduceLE, Int.reduceLT, Int.reduceNeg, Int.reduceAdd, Int.reduceSub, Int.reduceToNat, reduceCtorEq, ↓reduceIte]
    exact Is.mk
  intro hv3
  simp only [go_sem, Nat.reduceLT, Nat.reduceLeDiff, Nat.reduceAdd, Nat.reduceSub, Nat.reduceMul, Nat.reduceEqDiff, Nat.reduceBEq, Int.reduceLE, Int.reduceLT, Int.reduceNeg, Int.reduceAdd, Int.reduceSub, Int.reduceToNat, reduceCtorEq, ↓reduceIte]
  refine Rg.callX (av := ?av4) (g := ?g4) (fun hg4 => digit_ok c) ?ha4 ?hb4 ?hp4 ?hok4 ?hf4 ?cont4
  case ha4 =>
    simp only [go_sem, Nat.reduceLT, Nat.reduceLeDiff, Nat.reduceAdd, Nat.reduceSub, Nat.reduceMul, Nat.reduceEqDiff, Nat.reduceBEq, Int.reduceLE, Int.reduceLT, Int.reduceNeg, Int.reduceAdd, Int.reduceSub, Int.reduceToNat, reduceCtorEq, ↓reduceIte]
    exact Is.mk
  case hb4 =>
    simp only [go_sem, Nat.reduceLT, Nat.reduceLeDiff, Nat.reduceAdd, Nat.reduceSub, Nat.reduceMul, Nat.reduceEqDiff, Nat.reduceBEq, Int.reduceLE, Int.reduceLT, Int.reduceNeg, Int.reduceAdd, Int.reduceSub, Int.reduceToNat, reduceCtorEq, ↓reduceIte]
    exact Is.mk
  case hp4 =>
    simp only [go_sem, Nat.reduceLT, Nat.reduceLeDiff, Nat.reduceAdd, Nat.reduceSub, Nat.reduceMul, Nat.reduceEqDiff, Nat.reduceBEq, Int.reduceLE, Int.reduceLT, Int.reduceNeg, Int.reduceAdd, Int.reduceSub, Int.reduceToNat, reduceCtorEq, ↓reduceIte]
    exact Is.mk
  case hok4 =>
    simp only [go_sem, Nat.reduceLT, Nat.reduceLeDiff, Nat.reduceAdd, Nat.reduceSub, Nat.reduceMul, Nat.reduceEqDiff, Nat.reduceBEq, Int.reduceLE, Int.reduceLT, Int.reduceNeg, Int.reduceAdd, Int.reduceSub, Int.reduceToNat, reduceCtorEq, ↓reduceIte]
  case hf4 =>
    simp only [go_sem, Nat.reduceLT, Nat.reduceLeDiff, Nat.reduceAdd, Nat.reduceSub, Nat.reduceMul, Nat.reduceEqDiff, Nat.reduceBEq, Int.reduceLE, Int.reduceLT, Int.reduceNeg, Int.reduceAdd, Int.reduceSub, Int.reduceToNat, reduceCtorEq, ↓reduceIte]
    exact Is.mk
  intro hv4
  simp only [go_sem, Nat.reduceLT, Nat.reduceLeDiff, Nat.reduceAdd, Nat.reduceSub, Nat.reduceMul, Nat.reduceEqDiff, Nat.reduceBEq, Int.reduceLE, Int.reduceLT, Int.reduceNeg, Int.reduceAdd, Int.reduceSub, Int.reduceToNat, reduceCtorEq, ↓reduceIte]
  refine hK2 _ _ ?_
  refine Wp.ret ?_
  refine retQ_ret ?_
  simp only [go_sem, Nat.reduceLT, Nat.reduceLeDiff, Nat.reduceAdd, Nat.reduceSub, Nat.reduceMul, Nat.reduceEqDiff, Nat.reduceBEq, Int.reduceLE, Int.reduceLT, Int.reduceNeg, Int.reduceAdd, Int.reduceSub, Int.reduceToNat, reduceCtorEq, ↓reduceIte, nameCh]
theorem each_ok (s : List UInt8) (m : Int) (f : Nat) (p : Int → Bool) (hf : ∀ c, Does Try.prog f [.p (U c)] [] (fun r X => r = .p (.b (p c)) ∧ X = [])) : Does Try.prog 44 [.p (.s s), .p (I m), .fn f []] [] (fun r X => r = .p (.b (eachB s m p)) ∧ X = []) := by
  refine Does.of_wp 0 28 [.tmp 6] Try.func44 rfl (by decide) rfl rfl (Nat.le_of_ble_eq_true rfl) fun B => ?_
  refine Wp.seqR fun K1 hK1 => ?_
  simp only [go_sem, Nat.reduceLT, Nat.reduceLeDiff, Nat.reduceAdd, Nat.reduceSub, Nat.reduceMul, Nat.reduceEqDiff, Nat.reduceBEq, Int.reduceLE, Int.reduceLT, Int.reduceNeg, Int.reduceAdd, Int.reduceSub, Int.reduceToNat, reduceCtorEq, ↓reduceIte]
  refine hK1 _ _ ?_
  refine Wp.seq fun K2 hK2 => ?_
  refine Wp.seqR fun K3 hK3 => ?_
  simp only [go_sem, Nat.reduceLT, Nat.reduceLeDiff, Nat.reduceAdd, Nat.reduceSub, Nat.reduceMul, Nat.reduceEqDiff, Nat.reduceBEq, Int.reduceLE, Int.reduceLT, Int.reduceNeg, Int.reduceAdd, Int.reduceSub, Int.reduceToNat, reduceCtorEq, ↓reduceIte]
  refine hK3 _ _ ?_
  refine Wp.block ?_
  refine Wp.loop (S := Nat) (fun i => [(7, .p (I i)), (0, .p (.s s)), (1, .p (I m)), (2, .fn f [])]) (fun _ => []) (fun i => i ≤ s.length ∧ (s.drop i).all (fun c => p c.toNat) = s.all (fun c => p c.toNat)) (fun i => s.length - i) (0) ?_ ?_ ?_
  · simp only [go_sem, Nat.reduceLT, Nat.reduceLeDiff, Nat.reduceAdd, Nat.reduceSub, Nat.reduceMul, Nat.reduceEqDiff, Nat.reduceBEq, Int.reduceLE, Int.reduceLT, Int.reduceNeg, Int.reduceAdd, Int.reduceSub, Int.reduceToNat, reduceCtorEq, ↓reduceIte]
    first | rfl | exact ⟨rfl, rfl⟩
  · simp
  intro i ⟨hi, hinv⟩
  refine Wp.seq fun K4 hK4 => ?_
  refine Wp.seqR fun K5 hK5 => ?_
  simp only [go_sem, Nat.reduceLT, Nat.reduceLeDiff, Nat.reduceAdd, Nat.reduceSub, Nat.reduceMul, Nat.reduceEqDiff, Nat.reduceBEq, Int.reduceLE, Int.reduceLT, Int.reduceNeg, Int.reduceAdd, Int.reduceSub, Int.reduceToNat, reduceCtorEq, ↓reduceIte]
  refine hK5 _ _ ?_
  refine Wp.cond rfl ⟨⟩ (fun hc => ?_) (fun hc => ?_)
  · have hlt : i < s.length := by simpa using hc
    have hch : s.getD i 0 = s[i] := by simp [List.getD_eq_getElem?_getD, hlt]
    have hall : (s.drop i).all (fun c => p c.toNat) = (p s[i].toNat && (s.drop (i + 1)).all (fun c => p c.toNat)) := by
      rw [List.drop_eq_getElem_cons hlt, List.all_cons]
    refine Wp.skip ?_
    simp only [thenQ, blockQ, ↓reduceIte]
    refine hK4 _ _ ?_
    refine Wp.seq fun K6 hK6 => ?_
    refine Wp.block ?_
    refine Wp.seqR fun K7 hK7 => ?_
    simp only [go_sem, Nat.reduceLT, Nat.reduceLeDiff, Nat.reduceAdd, Nat.reduceSub, Nat.reduceMul, Nat.reduceEqDiff, Nat.reduceBEq, Int.reduceLE, Int.reduceLT, Int.reduceNeg, Int.reduceAdd, Int.reduceSub, Int.reduceToNat, reduceCtorEq, ↓reduceIte, Int.toNat_natCast, hch]
    refine ⟨⟨by omega, by simpa using hlt⟩, ?_⟩
    refine Rg.callF (av := ?av8) (hf s[i].toNat) ?ha8 ?hp8 ?hok8 ?cont8
    case ha8 =>
      simp only [go_sem, Nat.reduceLT, Nat.reduceLeDiff, Nat.reduceAdd, Nat.reduceSub, Nat.reduceMul, Nat.reduceEqDiff, Nat.reduceBEq, Int.reduceLE, Int.reduceLT, Int.reduceNeg, Int.reduceAdd, Int.reduceSub, Int.reduceToNat, reduceCtorEq, ↓reduceIte, Int.toNat_natCast, hch]
      exact Is.mk
    case hp8 =>
      simp only [go_sem, Nat.reduceLT, Nat.reduceLeDiff, Nat.reduceAdd, Nat.reduceSub, Nat.reduceMul, Nat.reduceEqDiff, Nat.reduceBEq, Int.reduceLE, Int.reduceLT, Int.reduceNeg, Int.reduceAdd, Int.reduceSub, Int.reduceToNat, reduceCtorEq, ↓reduceIte, Int.toNat_natCast, hch]
      exact Is.mk
    case hok8 =>
      simp only [go_sem, Nat.reduceLT, Nat.reduceLeDiff, Nat.reduceAdd, Nat.reduceSub, Nat.reduceMul, Nat.reduceEqDiff, Nat.reduceBEq, Int.reduceLE, Int.reduceLT, Int.reduceNeg, Int.reduceAdd, Int.reduceSub, Int.reduceToNat, reduceCtorEq, ↓reduceIte, Int.toNat_natCast, hch]
    intro hv8
    simp only [go_sem, Nat.reduceLT, Nat.reduceLeDiff, Nat.reduceAdd, Nat.reduceSub, Nat.reduceMul, Nat.reduceEqDiff, Nat.reduceBEq, Int.reduceLE, Int.reduceLT, Int.reduceNeg, Int.reduceAdd, Int.reduceSub, Int.reduceToNat, reduceCtorEq, ↓reduceIte, Int.toNat_natCast, hch]
    refine hK7 _ _ ?_
    refine Wp.cond rfl ⟨⟩ (fun h1 => ?_) (fun h1 => ?_)
    · have h1 : p s[i].toNat = false := by simpa using h1
      refine Wp.seqR fun K9 hK9 => ?_
      simp only [go_sem, Nat.reduceLT, Nat.reduceLeDiff, Nat.reduceAdd, Nat.reduceSub, Nat.reduceMul, Nat.reduceEqDiff, Nat.reduceBEq, Int.reduceLE, Int.reduceLT, Int.reduceNeg, Int.reduceAdd, Int.reduceSub, Int.reduceToNat, reduceCtorEq, ↓reduceIte]
      refine hK9 _ _ ?_
      refine Wp.ret ?_
      simp only [thenQ, blockQ]
      refine retQ_ret ?_
      simp only [go_sem, Nat.reduceLT, Nat.reduceLeDiff, Nat.reduceAdd, Nat.reduceSub, Nat.reduceMul, Nat.reduceEqDiff, Nat.reduceBEq, Int.reduceLE, Int.reduceLT, Int.reduceNeg, Int.reduceAdd, Int.reduceSub, Int.reduceToNat, reduceCtorEq, ↓reduceIte]
      unfold eachB
      rw [← hinv, hall, h1]; rfl
    · have h1 : p s[i].toNat = true := by simpa using h1
      refine Wp.skip ?_
      simp only [thenQ, blockQ, ↓reduceIte]
      refine hK6 _ _ ?_
      refine Wp.fact 0 fun hlen => ?_
      simp only [go_sem, Nat.reduceLT, Nat.reduceLeDiff, Nat.reduceAdd, Nat.reduceSub, Nat.reduceMul, Nat.reduceEqDiff, Nat.reduceBEq, Int.reduceLE, Int.reduceLT, Int.reduceNeg, Int.reduceAdd, Int.reduceSub, Int.reduceToNat, reduceCtorEq, ↓reduceIte] at hlen
      have hw : IntKind.i64.wrap ((i : Int) + 1) = ((i + 1 : Nat) : Int) := by rw [wrap64 (by omega) (by omega)]; omega
      refine Wp.region fun K10 hK10 => ?_
      simp only [go_sem, Nat.reduceLT, Nat.reduceLeDiff, Nat.reduceAdd, Nat.reduceSub, Nat.reduceMul, Nat.reduceEqDiff, Nat.reduceBEq, Int.reduceLE, Int.reduceLT, Int.reduceNeg, Int.reduceAdd, Int.reduceSub, Int.reduceToNat, reduceCtorEq, ↓reduceIte, hw]
      refine hK10 _ _ ?_
      simp only [thenQ, blockQ, ↓reduceIte]
      refine ⟨i + 1, ⟨by omega, by rw [← hinv, hall, h1]; rfl⟩, by omega, ?_⟩
      simp only [go_sem, Nat.reduceLT, Nat.reduceLeDiff, Nat.reduceAdd, Nat.reduceSub, Nat.reduceMul, Nat.reduceEqDiff, Nat.reduceBEq, Int.reduceLE, Int.reduceLT, Int.reduceNeg, Int.reduceAdd, Int.reduceSub, Int.reduceToNat, reduceCtorEq, ↓reduceIte]
  · have hal : s.all (fun c => p c.toNat) = true := by
      have : i = s.length := by simp at hc; omega
      rw [← hinv, this]; simp
    refine Wp.exit ?_
    simp only [thenQ, blockQ, ↓reduceIte]
    refine hK2 _ _ ?_
    refine Wp.seqR fun K11 hK11 => ?_
    simp only [go_sem, Nat.reduceLT, Nat.reduceLeDiff, Nat.reduceAdd, Nat.reduceSub, Nat.reduceMul, Nat.reduceEqDiff, Nat.reduceBEq, Int.reduceLE, Int.reduceLT, Int.reduceNeg, Int.reduceAdd, Int.reduceSub, Int.reduceToNat, reduceCtorEq, ↓reduceIte]
    refine hK11 _ _ ?_
    refine Wp.ret ?_
    refine retQ_ret ?_
    simp only [go_sem, Nat.reduceLT, Nat.reduceLeDiff, Nat.reduceAdd, Nat.reduceSub, Nat.reduceMul, Nat.reduceEqDiff, Nat.reduceBEq, Int.reduceLE, Int.reduceLT, Int.reduceNeg, Int.reduceAdd, Int.reduceSub, Int.reduceToNat, reduceCtorEq, ↓reduceIte]
    unfold eachB
    rw [hal]; simp
theorem isName_ok (s : List UInt8) : Does Try.prog 19 [.p (.s s)] [] (fun r X => r = .p (.b (isName s)) ∧ X = []) := by
  refine Does.of_wp 0 10 [.tmp 2] Try.func19 rfl (by decide) rfl rfl (Nat.le_of_ble_eq_true rfl) fun B => ?_
  refine Wp.seqR fun K1 hK1 => ?_
  simp only [go_sem, Nat.reduceLT, Nat.reduceLeDiff, Nat.reduceAdd, Nat.reduceSub, Nat.reduceMul, Nat.reduceEqDiff, Nat.reduceBEq, Int.reduceLE, Int.reduceLT, Int.reduceNeg, Int.reduceAdd, Int.reduceSub, Int.reduceToNat, reduceCtorEq, ↓reduceIte]
  refine hK1 _ _ ?_
  refine Wp.seqR fun K2 hK2 => ?_
  simp only [go_sem, Nat.reduceLT, Nat.reduceLeDiff, Nat.reduceAdd, Nat.reduceSub, Nat.reduceMul, Nat.reduceEqDiff, Nat.reduceBEq, Int.reduceLE, Int.reduceLT, Int.reduceNeg, Int.reduceAdd, Int.reduceSub, Int.reduceToNat, reduceCtorEq, ↓reduceIte]
  refine Rg.callF (av := ?av3) (each_ok s 40 45 nameCh nameCh_ok) ?ha3 ?hp3 ?hok3 ?cont3
  case ha3 =>
    simp only [go_sem, Nat.reduceLT, Nat.reduceLeDiff, Nat.reduceAdd, Nat.reduceSub, Nat.reduceMul, Nat.reduceEqDiff, Nat.reduceBEq, Int.reduceLE, Int.reduceLT, Int.reduceNeg, Int.reduceAdd, Int.reduceSub, Int.reduceToNat, reduceCtorEq, ↓reduceIte]
    exact Is.mk
  case hp3 =>
    simp only [go_sem, Nat.reduceLT, Nat.reduceLeDiff, Nat.reduceAdd, Nat.reduceSub, Nat.reduceMul, Nat.reduceEqDiff, Nat.reduceBEq, Int.reduceLE, Int.reduceLT, Int.reduceNeg, Int.reduceAdd, Int.reduceSub, Int.reduceToNat, reduceCtorEq, ↓reduceIte]
    exact Is.mk
  case hok3 =>
    simp only [go_sem, Nat.reduceLT, Nat.reduceLeDiff, Nat.reduceAdd, Nat.reduceSub, Nat.reduceMul, Nat.reduceEqDiff, Nat.reduceBEq, Int.reduceLE, Int.reduceLT, Int.reduceNeg, Int.reduceAdd, Int.reduceSub, Int.reduceToNat, reduceCtorEq, ↓reduceIte]
  intro hv3
  simp only [go_sem, Nat.reduceLT, Nat.reduceLeDiff, Nat.reduceAdd, Nat.reduceSub, Nat.reduceMul, Nat.reduceEqDiff, Nat.reduceBEq, Int.reduceLE, Int.reduceLT, Int.reduceNeg, Int.reduceAdd, Int.reduceSub, Int.reduceToNat, reduceCtorEq, ↓reduceIte]
  refine ⟨fun he => ?_, ?_⟩
  · have : s ≠ [] := by rintro rfl; simp [eachB] at he
    exact Int.natCast_pos.2 (List.length_pos_iff.2 this)
  refine Rg.callX (av := ?av4) (g := ?g4) (fun hg4 => small_ok (s.getD 0 0).toNat) ?ha4 ?hb4 ?hp4 ?hok4 ?hf4 ?cont4
  case ha4 =>
    simp only [go_sem, Nat.reduceLT, Nat.reduceLeDiff, Nat.reduceAdd, Nat.reduceSub, Nat.reduceMul, Nat.reduceEqDiff, Nat.reduceBEq, Int.reduceLE, Int.reduceLT, Int.reduceNeg, Int.reduceAdd, Int.reduceSub, Int.reduceToNat, reduceCtorEq, ↓reduceIte]
    exact Is.mk
  case hb4 =>
    simp only [go_sem, Nat.reduceLT, Nat.reduceLeDiff, Nat.reduceAdd, Nat.reduceSub, Nat.reduceMul, Nat.reduceEqDiff, Nat.reduceBEq, Int.reduceLE, Int.reduceLT, Int.reduceNeg, Int.reduceAdd, Int.reduceSub, Int.reduceToNat, reduceCtorEq, ↓reduceIte]
    exact Is.mk
  case hp4 =>
    simp only [go_sem, Nat.reduceLT, Nat.reduceLeDiff, Nat.reduceAdd, Nat.reduceSub, Nat.reduceMul, Nat.reduceEqDiff, Nat.reduceBEq, Int.reduceLE, Int.reduceLT, Int.reduceNeg, Int.reduceAdd, Int.reduceSub, Int.reduceToNat, reduceCtorEq, ↓reduceIte]
    exact Is.mk
  case hok4 =>
    simp only [go_sem, Nat.reduceLT, Nat.reduceLeDiff, Nat.reduceAdd, Nat.reduceSub, Nat.reduceMul, Nat.reduceEqDiff, Nat.reduceBEq, Int.reduceLE, Int.reduceLT, Int.reduceNeg, Int.reduceAdd, Int.reduceSub, Int.reduceToNat, reduceCtorEq, ↓reduceIte]
  case hf4 =>
    simp only [go_sem, Nat.reduceLT, Nat.reduceLeDiff, Nat.reduceAdd, Nat.reduceSub, Nat.reduceMul, Nat.reduceEqDiff, Nat.reduceBEq, Int.reduceLE, Int.reduceLT, Int.reduceNeg, Int.reduceAdd, Int.reduceSub, Int.reduceToNat, reduceCtorEq, ↓reduceIte]
    exact Is.mk
  intro hv4
  simp only [go_sem, Nat.reduceLT, Nat.reduceLeDiff, Nat.reduceAdd, Nat.reduceSub, Nat.reduceMul, Nat.reduceEqDiff, Nat.reduceBEq, Int.reduceLE, Int.reduceLT, Int.reduceNeg, Int.reduceAdd, Int.reduceSub, Int.reduceToNat, reduceCtorEq, ↓reduceIte]
  refine hK2 _ _ ?_
  refine Wp.ret ?_
  refine retQ_ret ?_
  simp only [go_sem, Nat.reduceLT, Nat.reduceLeDiff, Nat.reduceAdd, Nat.reduceSub, Nat.reduceMul, Nat.reduceEqDiff, Nat.reduceBEq, Int.reduceLE, Int.reduceLT, Int.reduceNeg, Int.reduceAdd, Int.reduceSub, Int.reduceToNat, reduceCtorEq, ↓reduceIte, isName]
theorem landed_ok : Does Try.prog 6 [] [] (fun r X => r = .p (.b true) ∧ X = []) := by
  refine Does.of_wp 0 2 [.tmp 0] Try.func6 rfl (by decide) rfl rfl (Nat.le_of_ble_eq_true rfl) fun B => ?_
  refine Wp.seqR fun K1 hK1 => ?_
  simp only [go_sem, Nat.reduceLT, Nat.reduceLeDiff, Nat.reduceAdd, Nat.reduceSub, Nat.reduceMul, Nat.reduceEqDiff, Nat.reduceBEq, Int.reduceLE, Int.reduceLT, Int.reduceNeg, Int.reduceAdd, Int.reduceSub, Int.reduceToNat, reduceCtorEq, ↓reduceIte]
  refine hK1 _ _ ?_
  refine Wp.seqR fun K2 hK2 => ?_
  simp only [go_sem, Nat.reduceLT, Nat.reduceLeDiff, Nat.reduceAdd, Nat.reduceSub, Nat.reduceMul, Nat.reduceEqDiff, Nat.reduceBEq, Int.reduceLE, Int.reduceLT, Int.reduceNeg, Int.reduceAdd, Int.reduceSub, Int.reduceToNat, reduceCtorEq, ↓reduceIte]
  refine Rg.callF (av := ?av3) (isName_ok [97]) ?ha3 ?hp3 ?hok3 ?cont3
  case ha3 =>
    simp only [go_sem, Nat.reduceLT, Nat.reduceLeDiff, Nat.reduceAdd, Nat.reduceSub, Nat.reduceMul, Nat.reduceEqDiff, Nat.reduceBEq, Int.reduceLE, Int.reduceLT, Int.reduceNeg, Int.reduceAdd, Int.reduceSub, Int.reduceToNat, reduceCtorEq, ↓reduceIte]
    exact Is.mk
  case hp3 =>
    simp only [go_sem, Nat.reduceLT, Nat.reduceLeDiff, Nat.reduceAdd, Nat.reduceSub, Nat.reduceMul, Nat.reduceEqDiff, Nat.reduceBEq, Int.reduceLE, Int.reduceLT, Int.reduceNeg, Int.reduceAdd, Int.reduceSub, Int.reduceToNat, reduceCtorEq, ↓reduceIte]
    exact Is.mk
  case hok3 =>
    simp only [go_sem, Nat.reduceLT, Nat.reduceLeDiff, Nat.reduceAdd, Nat.reduceSub, Nat.reduceMul, Nat.reduceEqDiff, Nat.reduceBEq, Int.reduceLE, Int.reduceLT, Int.reduceNeg, Int.reduceAdd, Int.reduceSub, Int.reduceToNat, reduceCtorEq, ↓reduceIte]
  intro hv3
  simp only [go_sem, Nat.reduceLT, Nat.reduceLeDiff, Nat.reduceAdd, Nat.reduceSub, Nat.reduceMul, Nat.reduceEqDiff, Nat.reduceBEq, Int.reduceLE, Int.reduceLT, Int.reduceNeg, Int.reduceAdd, Int.reduceSub, Int.reduceToNat, reduceCtorEq, ↓reduceIte]
  refine hK2 _ _ ?_
  refine Wp.ret ?_
  refine retQ_ret ?_
  simp only [go_sem, Nat.reduceLT, Nat.reduceLeDiff, Nat.reduceAdd, Nat.reduceSub, Nat.reduceMul, Nat.reduceEqDiff, Nat.reduceBEq, Int.reduceLE, Int.reduceLT, Int.reduceNeg, Int.reduceAdd, Int.reduceSub, Int.reduceToNat, reduceCtorEq, ↓reduceIte]
  rw [show isName [97] = true by decide]
theorem rawWays_ok (ws : List (Int × Int × Int)) (ns : List Int) : Does Try.prog 3 [.p (.l (ways ws)), .p (.l (ints ns))] [] (fun r X => r = .p (.b true) ∧ X = []) := by
  refine Does.of_wp 0 14 [.tmp 4] Try.func3 rfl (by decide) rfl rfl (Nat.le_of_ble_eq_true rfl) fun B => ?_
  refine Wp.seqR fun K1 hK1 => ?_
  simp only [go_sem, Nat.reduceLT, Nat.reduceLeDiff, Nat.reduceAdd, Nat.reduceSub, Nat.reduceMul, Nat.reduceEqDiff, Nat.reduceBEq, Int.reduceLE, Int.reduceLT, Int.reduceNeg, Int.reduceAdd, Int.reduceSub, Int.reduceToNat, reduceCtorEq, ↓reduceIte]
  refine hK1 _ _ ?_
  refine Wp.seq fun K2 hK2 => ?_
  refine Wp.seqR fun K3 hK3 => ?_
  simp only [go_sem, Nat.reduceLT, Nat.reduceLeDiff, Nat.reduceAdd, Nat.reduceSub, Nat.reduceMul, Nat.reduceEqDiff, Nat.reduceBEq, Int.reduceLE, Int.reduceLT, Int.reduceNeg, Int.reduceAdd, Int.reduceSub, Int.reduceToNat, reduceCtorEq, ↓reduceIte]
  refine Rg.callF (av := ?av4) (landed_ok) ?ha4 ?hp4 ?hok4 ?cont4
  case ha4 =>
    simp only [go_sem, Nat.reduceLT, Nat.reduceLeDiff, Nat.reduceAdd, Nat.reduceSub, Nat.reduceMul, Nat.reduceEqDiff, Nat.reduceBEq, Int.reduceLE, Int.reduceLT, Int.reduceNeg, Int.reduceAdd, Int.reduceSub, Int.reduceToNat, reduceCtorEq, ↓reduceIte]
    exact Is.mk
  case hp4 =>
    simp only [go_sem, Nat.reduceLT, Nat.reduceLeDiff, Nat.reduceAdd, Nat.reduceSub, Nat.reduceMul, Nat.reduceEqDiff, Nat.reduceBEq, Int.reduceLE, Int.reduceLT, Int.reduceNeg, Int.reduceAdd, Int.reduceSub, Int.reduceToNat, reduceCtorEq, ↓reduceIte]
    exact Is.mk
  case hok4 =>
    simp only [go_sem, Nat.reduceLT, Nat.reduceLeDiff, Nat.reduceAdd, Nat.reduceSub, Nat.reduceMul, Nat.reduceEqDiff, Nat.reduceBEq, Int.reduceLE, Int.reduceLT, Int.reduceNeg, Int.reduceAdd, Int.reduceSub, Int.reduceToNat, reduceCtorEq, ↓reduceIte]
  intro hv4
  simp only [go_sem, Nat.reduceLT, Nat.reduceLeDiff, Nat.reduceAdd, Nat.reduceSub, Nat.reduceMul, Nat.reduceEqDiff, Nat.reduceBEq, Int.reduceLE, Int.reduceLT, Int.reduceNeg, Int.reduceAdd, Int.reduceSub, Int.reduceToNat, reduceCtorEq, ↓reduceIte]
  refine hK3 _ _ ?_
  refine Wp.cond rfl ⟨⟩ (fun h => ?_) (fun h => ?_)
  · refine Wp.seqR fun K5 hK5 => ?_
    simp only [go_sem, Nat.reduceLT, Nat.reduceLeDiff, Nat.reduceAdd, Nat.reduceSub, Nat.reduceMul, Nat.reduceEqDiff, Nat.reduceBEq, Int.reduceLE, Int.reduceLT, Int.reduceNeg, Int.reduceAdd, Int.reduceSub, Int.reduceToNat, reduceCtorEq, ↓reduceIte]
    refine hK5 _ _ ?_
    refine Wp.ret ?_
    simp only [thenQ, blockQ]
    refine retQ_ret ?_
    cases h
  · refine Wp.skip ?_
    simp only [thenQ, blockQ, ↓reduceIte]
    refine hK2 _ _ ?_
    refine Wp.seqR fun K6 hK6 => ?_
    simp only [go_sem, Nat.reduceLT, Nat.reduceLeDiff, Nat.reduceAdd, Nat.reduceSub, Nat.reduceMul, Nat.reduceEqDiff, Nat.reduceBEq, Int.reduceLE, Int.reduceLT, Int.reduceNeg, Int.reduceAdd, Int.reduceSub, Int.reduceToNat, reduceCtorEq, ↓reduceIte]
    refine Rg.callF (av := ?av7) (check_ok ws ns) ?ha7 ?hp7 ?hok7 ?cont7
    case ha7 =>
      simp only [go_sem, Nat.reduceLT, Nat.reduceLeDiff, Nat.reduceAdd, Nat.reduceSub, Nat.reduceMul, Nat.reduceEqDiff, Nat.reduceBEq, Int.reduceLE, Int.reduceLT, Int.reduceNeg, Int.reduceAdd, Int.reduceSub, Int.reduceToNat, reduceCtorEq, ↓reduceIte]
      exact Is.mk
    case hp7 =>
      simp only [go_sem, Nat.reduceLT, Nat.reduceLeDiff, Nat.reduceAdd, Nat.reduceSub, Nat.reduceMul, Nat.reduceEqDiff, Nat.reduceBEq, Int.reduceLE, Int.reduceLT, Int.reduceNeg, Int.reduceAdd, Int.reduceSub, Int.reduceToNat, reduceCtorEq, ↓reduceIte]
      exact Is.mk
    case hok7 =>
      simp only [go_sem, Nat.reduceLT, Nat.reduceLeDiff, Nat.reduceAdd, Nat.reduceSub, Nat.reduceMul, Nat.reduceEqDiff, Nat.reduceBEq, Int.reduceLE, Int.reduceLT, Int.reduceNeg, Int.reduceAdd, Int.reduceSub, Int.reduceToNat, reduceCtorEq, ↓reduceIte]
    intro hv7
    simp only [go_sem, Nat.reduceLT, Nat.reduceLeDiff, Nat.reduceAdd, Nat.reduceSub, Nat.reduceMul, Nat.reduceEqDiff, Nat.reduceBEq, Int.reduceLE, Int.reduceLT, Int.reduceNeg, Int.reduceAdd, Int.reduceSub, Int.reduceToNat, reduceCtorEq, ↓reduceIte]
    refine Rg.callF (av := ?av8) (waysError_ok ws ns) ?ha8 ?hp8 ?hok8 ?cont8
    case ha8 =>
      simp only [go_sem, Nat.reduceLT, Nat.reduceLeDiff, Nat.reduceAdd, Nat.reduceSub, Nat.reduceMul, Nat.reduceEqDiff, Nat.reduceBEq, Int.reduceLE, Int.reduceLT, Int.reduceNeg, Int.reduceAdd, Int.reduceSub, Int.reduceToNat, reduceCtorEq, ↓reduceIte]
      exact Is.mk
    case hp8 =>
      simp only [go_sem, Nat.reduceLT, Nat.reduceLeDiff, Nat.reduceAdd, Nat.reduceSub, Nat.reduceMul, Nat.reduceEqDiff, Nat.reduceBEq, Int.reduceLE, Int.reduceLT, Int.reduceNeg, Int.reduceAdd, Int.reduceSub, Int.reduceToNat, reduceCtorEq, ↓reduceIte]
      exact Is.mk
    case hok8 =>
      simp only [go_sem, Nat.reduceLT, Nat.reduceLeDiff, Nat.reduceAdd, Nat.reduceSub, Nat.reduceMul, Nat.reduceEqDiff, Nat.reduceBEq, Int.reduceLE, Int.reduceLT, Int.reduceNeg, Int.reduceAdd, Int.reduceSub, Int.reduceToNat, reduceCtorEq, ↓reduceIte]
    intro hv8
    simp only [go_sem, Nat.reduceLT, Nat.reduceLeDiff, Nat.reduceAdd, Nat.reduceSub, Nat.reduceMul, Nat.reduceEqDiff, Nat.reduceBEq, Int.reduceLE, Int.reduceLT, Int.reduceNeg, Int.reduceAdd, Int.reduceSub, Int.reduceToNat, reduceCtorEq, ↓reduceIte]
    refine hK6 _ _ ?_
    refine Wp.ret ?_
    refine retQ_ret ?_
    simp only [go_sem, Nat.reduceLT, Nat.reduceLeDiff, Nat.reduceAdd, Nat.reduceSub, Nat.reduceMul, Nat.reduceEqDiff, Nat.reduceBEq, Int.reduceLE, Int.reduceLT, Int.reduceNeg, Int.reduceAdd, Int.reduceSub, Int.reduceToNat, reduceCtorEq, ↓reduceIte]
end Go.Proofs.Ythofobeoaimclaa

