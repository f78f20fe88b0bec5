/- RawWays: called with any ways and sizes whose bulk is at most 1048576, the law returns true, and what it was called with reads as before. -/
import Derived.Test.YthofobeoaimclaaRows
import Derived.Test.YthofobeoaimclaaVc2
import Derived.Test.YthofobeoaimclaaRwWalk
namespace Go.Proofs.Ythofobeoaimclaa
open Go.Vc
set_option linter.unusedSimpArgs false
set_option linter.unusedVariables false
theorem own : ownKnob Try.prog.godebug = none := by kernel_rfl
mutual
theorem bulk_eq {H : Type} : ∀ d : DataW H, Rows.uptoBulk d = bulkD d
  | .lit l => by cases l <;> simp only [Rows.uptoBulk, bulkD]
  | .nil => by simp only [Rows.uptoBulk, bulkD]
  | .ptr d => by simp only [Rows.uptoBulk, bulkD, bulk_eq d]
  | .slice a b => by simp only [Rows.uptoBulk, bulkD, bulks_eq a, bulks_eq b]
  | .agg a => by simp only [Rows.uptoBulk, bulkD, bulks_eq a]
  | .iface _ d => by simp only [Rows.uptoBulk, bulkD, bulk_eq d]
  | .map es => by simp only [Rows.uptoBulk, bulkD, bulkEs_eq es]
  | .held _ => by simp only [Rows.uptoBulk, bulkD]
theorem bulks_eq {H : Type} : ∀ d : List (DataW H), Rows.uptoBulkAll d = bulkDs d
  | [] => by simp only [Rows.uptoBulkAll, bulkDs]
  | d :: r => by simp only [Rows.uptoBulkAll, bulkDs, bulk_eq d, bulks_eq r]
theorem bulkEs_eq {H : Type} : ∀ d : List (Lit × DataW H), Rows.uptoBulkEntries d = bulkEs d
  | [] => by simp only [Rows.uptoBulkEntries, bulkEs]
  | x :: r => by simp only [Rows.uptoBulkEntries, bulkEs, bulkE_eq x, bulkEs_eq r]
theorem bulkE_eq {H : Type} : ∀ d : Lit × DataW H, Rows.uptoBulkEntry d = bulkE d
  | (l, d) => by cases l <;> simp only [Rows.uptoBulkEntry, bulkE, bulk_eq d]
end
theorem smallUp {H : Type} {l : List (DataW H)} (hk : Rows.uptoSmall H l = true) : bulkDs l ≤ 1048576 := by
  rw [← bulks_eq]; exact of_decide_eq_true hk

theorem dec_int : ∀ r, hasR r [.i .i64] → ∃ a : Int, r = [I a]
  | [.i k n], h => by simp [hasR, hasT] at h; exact ⟨n, by rw [h]⟩
  | [.b _], h | [.s _], h | [.l _], h | [], h | (.b _) :: _ :: _, h | (.s _) :: _ :: _, h | (.l _) :: _ :: _, h | (.i _ _) :: _ :: _, h => by simp [hasR, hasT] at h
theorem dec_way : ∀ r, hasR r [.i .i64, .i .i64, .i .i64] → ∃ a : Int × Int × Int, r = [I a.1, I a.2.1, I a.2.2]
  | r, h => by
    rcases r with _ | ⟨a, _ | ⟨b, _ | ⟨c, _ | _⟩⟩⟩ <;> simp only [hasR, and_false] at h
    obtain ⟨ha, hb, hc, _⟩ := h
    cases a <;> simp only [hasT] at ha
    cases b <;> simp only [hasT] at hb
    cases c <;> simp only [hasT] at hc
    subst ha; subst hb; subst hc
    exact ⟨(_, _, _), rfl⟩

theorem rawWays_does (rows : List (List Dt)) (h : hasAll rows [[.l [.i .i64, .i .i64, .i .i64]], [.l [.i .i64]]]) :
    Does Try.prog 3 (argVs [false, false] rows) [] fun r X => r = .p (.b true) ∧ X = [] := by
  rcases rows with _ | ⟨r0, _ | ⟨r1, _ | _⟩⟩ <;> simp only [hasAll, and_false] at h
  obtain ⟨h0, h1, _⟩ := h
  rcases r0 with _ | ⟨d0, _ | _⟩ <;> simp only [hasR, and_false, and_true] at h0
  rcases r1 with _ | ⟨d1, _ | _⟩ <;> simp only [hasR, and_false, and_true] at h1
  cases d0 <;> simp only [hasT] at h0
  cases d1 <;> simp only [hasT] at h1
  obtain ⟨ws, rfl⟩ := hasRs_map dec_way h0
  obtain ⟨ns, rfl⟩ := hasRs_map dec_int h1
  exact rawWays_ok ws ns

set_option maxRecDepth 100000 in
theorem rawWays_lifted (os : Os) (started : os.Started) (H : Type) (enc : TypeId × Value → H) (F : Stop.Interp) :
    ReturnsInHanded {} Try.checked os 3 .any ((Rows.OpenSpec.upto Rows.rawWaysSpec).pre6 enc Try.prog Try.f3 Rows.rawWaysUptoRow.domain false) (((Rows.OpenSpec.upto Rows.rawWaysSpec).at F).post enc Try.prog Try.f3 false true false false) := by
  refine returnsInHanded_of_cond (C := Try.checked) (s := Rows.OpenSpec.upto Rows.rawWaysSpec) (k := Rows.uptoSmall) rfl own started (by kernel_rfl) Try.func3
    (OpenSpec.witness (enc := enc) (C := Try.checked) (s := Rows.OpenSpec.upto Rows.rawWaysSpec) (k := Rows.uptoSmall) rfl false ⟨#[], #[.slice none 0 0, .slice none 0 0], []⟩ 8 (by kernel_rfl) (by kernel_rfl) (by kernel_rfl)
      (x := ([.nil, .nil], [], [])) (by kernel_rfl) rfl (by kernel_rfl)) ?_
  intro W base args ds gs before hval hW _ hk _
  have hb := smallUp hk
  rw [bulkDs_append] at hb
  exact law_calls (m := 20) (shss := [[.l [.i .i64, .i .i64, .i .i64]], [.l [.i .i64]]]) rfl (tb := 4) (by kernel_rfl) Try.underlying4 (by kernel_rfl) (by kernel_rfl) (by kernel_rfl) (fun ds h => match ds, h with | [_, _], _ => rfl)
    (fun rows h1 _ => rawWays_does rows h1) hval hW (by simp only [Lim]; omega)

theorem rawWays_proved : Rows.RawWaysUptoSaid :=
  OpenClaim.holds_of_cond 3 Try.f3 rfl rfl rfl rfl rfl rfl rfl ⟨rfl, rfl, rfl, rfl, rfl⟩ rfl rfl rfl rfl rfl (by kernel_rfl) Try.func3 (by kernel_rfl)
    (of_decide_eq_true (by kernel_rfl)) (by unfold Func.isWrapper; first | (rw [if_pos (by decide +kernel)]; kernel_rfl) | (rw [if_neg (by decide +kernel)]; exact ⟨rfl, rfl⟩))
    (fun os started H enc _ F => rawWays_lifted os started H enc F)
end Go.Proofs.Ythofobeoaimclaa
