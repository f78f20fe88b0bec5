/- The statement, proved: of every input of bulk at most 1048576 the law's function says true, and the input reads as it did. -/
import Derived.Test.YtoieghljolfkaaaRows
import Derived.Test.YtoieghljolfkaaaWmWk1
import Derived.Test.YtoieghljolfkaaaWmWk2
import Derived.Test.YtoieghljolfkaaaWmWk3
import Derived.Test.YtoieghljolfkaaaWmWk4
import Derived.Test.YtoieghljolfkaaaWmPl
namespace Go.Proofs.Ytoieghljolfkaaa
open Go.Vc Go.Md
set_option linter.unusedSimpArgs false
set_option linter.unusedVariables false
theorem own : ownKnob Try.prog.godebug = none := by kernel_rfl
mutual
theorem bulk_eq {H : Type} : ∀ d : DataW H, Rows.uptoBulk d = bulkD d
  | .lit l => by cases l <;> simp only [Rows.uptoBulk, bulkD]
  | .nil => by simp only [Rows.uptoBulk, bulkD]
  | .ptr d => by simp only [Rows.uptoBulk, bulkD, bulk_eq d]
  | .slice a b => by simp only [Rows.uptoBulk, bulkD, bulks_eq a, bulks_eq b]
  | .agg a => by simp only [Rows.uptoBulk, bulkD, bulks_eq a]
  | .iface _ d => by simp only [Rows.uptoBulk, bulkD, bulk_eq d]
  | .map es => by simp only [Rows.uptoBulk, bulkD, bulkEs_eq es]
  | .held _ => by simp only [Rows.uptoBulk, bulkD]
theorem bulks_eq {H : Type} : ∀ d : List (DataW H), Rows.uptoBulkAll d = bulkDs d
  | [] => by simp only [Rows.uptoBulkAll, bulkDs]
  | d :: r => by simp only [Rows.uptoBulkAll, bulkDs, bulk_eq d, bulks_eq r]
theorem bulkEs_eq {H : Type} : ∀ d : List (Lit × DataW H), Rows.uptoBulkEntries d = bulkEs d
  | [] => by simp only [Rows.uptoBulkEntries, bulkEs]
  | x :: r => by simp only [Rows.uptoBulkEntries, bulkEs, bulkE_eq x, bulkEs_eq r]
theorem bulkE_eq {H : Type} : ∀ d : Lit × DataW H, Rows.uptoBulkEntry d = bulkE d
  | (l, d) => by cases l <;> simp only [Rows.uptoBulkEntry, bulkE, bulk_eq d]
end
theorem smallUp {H : Type} {l : List (DataW H)} (hk : Rows.uptoSmall H l = true) : bulkDs l ≤ 1048576 := by
  rw [← bulks_eq]; exact of_decide_eq_true hk

theorem does (rows : List (List Dt)) (h : hasAll rows [[.l sh_api_Way], [.l [.i .i64]], [.i .i64], [.i .i64]]) :
    Does Try.prog 4 (argVs [false, false, false, false] rows) [] fun r X => r = .p (.b true) ∧ X = [] := by
  rcases rows with _ | ⟨r0, _ | ⟨r1, _ | ⟨r2, _ | ⟨r3, _ | _⟩⟩⟩⟩ <;> simp only [hasAll, and_false, and_true] at h
  obtain ⟨h0, h1, h2, h3⟩ := h
  rcases r0 with _ | ⟨d0, _ | _⟩ <;> simp only [hasR, and_false, and_true] at h0
  rcases r1 with _ | ⟨d1, _ | _⟩ <;> simp only [hasR, and_false, and_true] at h1
  cases d0 <;> simp only [hasT] at h0
  cases d1 <;> simp only [hasT] at h1
  obtain ⟨a0, rfl⟩ := hasRs_map dec_api_Way h0
  obtain ⟨a1, rfl⟩ := hasRs_map dec1_i64 h1
  obtain ⟨a2, rfl⟩ := dec1_i64 r2 h2
  obtain ⟨a3, rfl⟩ := dec1_i64 r3 h3
  exact ok_Law_WaysMatch a0 a1 a2 a3 true (law_wm a0 a1 a2 a3)

set_option maxRecDepth 100000 in
theorem lifted (os : Os) (started : os.Started) (H : Type) (enc : TypeId × Value → H) (F : Stop.Interp) :
    ReturnsInHanded {} Try.checked os 4 .any ((Rows.OpenSpec.upto Rows.waysMatchSpec).pre6 enc Try.prog Try.f4 Rows.waysMatchUptoRow.domain false) (((Rows.OpenSpec.upto Rows.waysMatchSpec).at F).post enc Try.prog Try.f4 false true false false) := by
  refine returnsInHanded_of_cond (C := Try.checked) (s := Rows.OpenSpec.upto Rows.waysMatchSpec) (k := Rows.uptoSmall) rfl own started (by kernel_rfl) Try.func4
    (OpenSpec.witness (enc := enc) (C := Try.checked) (s := Rows.OpenSpec.upto Rows.waysMatchSpec) (k := Rows.uptoSmall) rfl false ⟨#[], #[.slice none 0 0, .slice none 0 0, .int .i64 0, .int .i64 0], []⟩ 8 (by kernel_rfl) (by kernel_rfl) (by kernel_rfl)
      (x := ([.nil, .nil, .lit (.int .i64 0), .lit (.int .i64 0)], [], [])) (by kernel_rfl) rfl (by kernel_rfl)) ?_
  intro W base args ds gs before hval hW _ hk _
  have hb := smallUp hk
  rw [bulkDs_append] at hb
  exact law_calls (htab := ⟨fun b k l e => (by cases e), fun b e => (by cases e)⟩) (m := 20) (shss := [[.l sh_api_Way], [.l [.i .i64]], [.i .i64], [.i .i64]]) rfl (tb := 4) (by kernel_rfl) Try.underlying4 (by kernel_rfl) (by kernel_rfl) (by kernel_rfl) (fun ds h => match ds, h with | [_, _, _, _], _ => rfl)
    (fun rows h1 _ => does rows h1) hval hW (by simp only [Lim]; omega)

theorem waysMatch_proved : Rows.WaysMatchUptoSaid :=
  OpenClaim.holds_of_cond 4 Try.f4 rfl rfl rfl rfl rfl rfl rfl ⟨rfl, rfl, rfl, rfl, rfl⟩ rfl rfl rfl rfl rfl (by kernel_rfl) Try.func4 (by kernel_rfl)
    (of_decide_eq_true (by kernel_rfl)) (by unfold Func.isWrapper; first | (rw [if_pos (by decide +kernel)]; kernel_rfl) | (rw [if_neg (by decide +kernel)]; exact ⟨rfl, rfl⟩))
    (fun os started H enc _ F => lifted os started H enc F)
end Go.Proofs.Ytoieghljolfkaaa
#print axioms Go.Proofs.Ytoieghljolfkaaa.waysMatch_proved
