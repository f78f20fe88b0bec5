/- The statement, proved: of every input of bulk at most 1048576 the law's function says true, and the input reads as it did. -/
import Derived.Test.YtbfemlilfeahkaaDoorCards
import Derived.Test.YtbfemlilfeahkaaDoorTie
import Derived.Deep.DeepHandedRow
import Derived.Lib.LaidTab
import Derived.Test.YtbfemlilfeahkaaDoorCpWk2
import Derived.Test.YtbfemlilfeahkaaDoorCpPl
namespace Go.Proofs.YtbfemlilfeahkaaDoor
open Go.Vc Go.Md
theorem own : ownKnob Tryd.prog.godebug = none := by kernel_rfl
mutual
theorem bulk_eq {H : Type} : ∀ d : DataW H, Rows.uptoBulk d = bulkD d
  | .lit l => by cases l <;> simp only [Rows.uptoBulk, bulkD]
  | .nil => by simp only [Rows.uptoBulk, bulkD]
  | .ptr d => by simp only [Rows.uptoBulk, bulkD, bulk_eq d]
  | .slice a b => by simp only [Rows.uptoBulk, bulkD, bulks_eq a, bulks_eq b]
  | .agg a => by simp only [Rows.uptoBulk, bulkD, bulks_eq a]
  | .iface _ d => by simp only [Rows.uptoBulk, bulkD, bulk_eq d]
  | .map es => by simp only [Rows.uptoBulk, bulkD, bulkEs_eq es]
  | .held _ => by simp only [Rows.uptoBulk, bulkD]
theorem bulks_eq {H : Type} : ∀ d : List (DataW H), Rows.uptoBulkAll d = bulkDs d
  | [] => by simp only [Rows.uptoBulkAll, bulkDs]
  | d :: r => by simp only [Rows.uptoBulkAll, bulkDs, bulk_eq d, bulks_eq r]
theorem bulkEs_eq {H : Type} : ∀ d : List (Lit × DataW H), Rows.uptoBulkEntries d = bulkEs d
  | [] => by simp only [Rows.uptoBulkEntries, bulkEs]
  | x :: r => by simp only [Rows.uptoBulkEntries, bulkEs, bulkE_eq x, bulkEs_eq r]
theorem bulkE_eq {H : Type} : ∀ d : Lit × DataW H, Rows.uptoBulkEntry d = bulkE d
  | (l, d) => by cases l <;> simp only [Rows.uptoBulkEntry, bulkE, bulk_eq d]
end
theorem smallUp {H : Type} {l : List (DataW H)} (hk : Rows.uptoSmall H l = true) : bulkDs l ≤ 1048576 := by
  rw [← bulks_eq]; exact of_decide_eq_true hk
theorem line_bulk (c : api_Change) : (lineC c).length + 1 ≤ 40 * bulkR (enc_api_Change c) := by
  have q1 := quoteS_len c.File.Data
  have q2 := quoteS_len c.Setting.Value
  have b1 := bitW_len c.Service.Auto
  have b2 := bitW_len c.Service.On
  simp only [enc_api_Change, bulkR, bulkT]
  unfold lineC fileW setW svcW
  cases decide (c.Kind = 1)
  · cases decide (c.Kind = 2)
    · cases decide (c.Kind = 3)
      · cases decide (c.Kind = 4)
        · cases decide (c.Kind = 5)
          · simp only [cond_false, List.length_append, List.length_cons, List.length_nil]; omega
          · simp only [cond_false, cond_true, List.length_append, List.length_cons, List.length_nil, b1, b2]; omega
        · simp only [cond_false, cond_true, List.length_append, List.length_cons, List.length_nil]; omega
      · simp only [cond_false, cond_true, List.length_append, List.length_cons, List.length_nil]; omega
    · simp only [cond_false, cond_true, List.length_append, List.length_cons, List.length_nil]; omega
  · cases c.File.Runs <;> (simp only [cond_false, cond_true, List.length_append, List.length_cons, List.length_nil]; omega)
theorem print_bulk : ∀ l : List api_Change, (printC l).length ≤ 40 * bulkRs (l.map enc_api_Change)
  | [] => by simp [printC]
  | c :: l => by
    have h1 := line_bulk c
    have h2 := print_bulk l
    rw [printC_cons]
    simp only [List.map_cons, bulkRs, List.length_append, List.length_cons, List.length_nil]
    omega
theorem does (rows : List (List Dt)) (h : hasAll rows [[.l sh_api_Change], [.s]]) (hb : bulkRs rows ≤ 1048576) :
    Does Tryd.prog 5 (argVs [false, false] rows) [] fun r X => r = .p (.b true) ∧ X = [] := by
  rcases rows with _ | ⟨r0, _ | ⟨r1, _ | _⟩⟩ <;> simp only [hasAll, and_false, and_true] at h
  obtain ⟨h0, h1⟩ := h
  rcases r0 with _ | ⟨d0, _ | _⟩ <;> simp only [hasR, and_false, and_true] at h0
  cases d0 <;> simp only [hasT] at h0
  obtain ⟨a0, rfl⟩ := hasRs_map dec_api_Change h0
  obtain ⟨a1, rfl⟩ := dec1_s r1 h1
  simp only [encS, bulkRs, bulkR, bulkT] at hb
  have hp := print_bulk a0
  have hm : ∀ c ∈ a0, bulkR (enc_api_Change c) ≤ 1048576 := fun c hc => by
    have := bulk_map_mem (f := enc_api_Change) hc
    omega
  have hC : ∀ c ∈ a0, SmC c := fun c hc => by
    have := hm c hc
    simp only [enc_api_Change, bulkR, bulkT] at this
    exact ⟨by simp only [Sm]; omega, by simp only [Sm]; omega, by simp only [Sm]; omega⟩
  have hD : ∀ c ∈ a0, SmD c := fun c hc => by
    have := hm c hc
    simp only [enc_api_Change, bulkR, bulkT] at this
    exact ⟨by omega, by omega⟩
  exact ok_Law_ChangesPrint a0 a1 true (law_cp a0 a1 (by omega) hC hD (by omega))

/-! ### the row -/
def cellsD : DataW Unit → List Value
  | .lit (.int k n) => [.int k n]
  | .agg ds => cellsDs ds
  | _ => []
where cellsDs : List (DataW Unit) → List Value
  | [] => []
  | d :: ds => cellsD d ++ cellsDs ds
def lay (g : Option Nat) (d : DataW Unit) (h : Array Obj) : Array Obj := match g with
  | some g => h.modify g fun
      | .cells _ t frozen => .cells (cellsD d).toArray t frozen
      | o => o
  | none => h
noncomputable def laidWorld (os : Os) : World :=
  { World.holding Tryd.prog os ⟨#[], #[], []⟩ with heap := lay (Tryd.prog.globalNamed "unicode/utf8.acceptRanges") Rows.laid_unicode_utf8_acceptRanges (lay (Tryd.prog.globalNamed "unicode/utf8.first") Rows.laid_unicode_utf8_first (World.holding Tryd.prog os ⟨#[], #[], []⟩).heap) }
theorem laid_met (os : Os) : laidMet Tryd.prog Rows.changesPrintUptoRow.laid ((laidWorld os).forCall (fun _ _ => 0) ⟨#[], #[.slice none 0 0, .string .empty], []⟩).memory :=
  laidMet_of_run' 8 (by kernel_rfl) (by kernel_rfl)
theorem reads (os : Os) {H : Type} (enc : TypeId × Value → H) : ∃ places, DataW.whole enc Tryd.prog ((laidWorld os).forCall (fun _ _ => 0) ⟨#[], #[.slice none 0 0, .string .empty], []⟩).memory Tryd.f5.params.toList Rows.changesPrintSpec.vars false (#[.slice none 0 0, .string .empty] : Array Value).toList 8 = some ([.nil, .lit (.string [])], [], places) :=
  ⟨[], by kernel_rfl⟩
set_option maxRecDepth 100000 in
theorem lifted (os : Os) (started : os.Started) (H : Type) (enc : TypeId × Value → H) (F : Stop.Interp) :
    ReturnsInHanded {} Tryd.checked os 5 .any ((Rows.OpenSpec.upto Rows.changesPrintSpec).preRow enc Tryd.prog Tryd.f5 Rows.changesPrintUptoRow.domain false Rows.changesPrintUptoRow.laid) (((Rows.OpenSpec.upto Rows.changesPrintSpec).at F).post enc Tryd.prog Tryd.f5 false true false false) := by
  obtain ⟨places, hx⟩ := reads os enc
  refine returnsInHanded_of_row (C := Tryd.checked) (s := Rows.OpenSpec.upto Rows.changesPrintSpec) own started (by kernel_rfl) Tryd.func5
    (witness_row_at (enc := enc) (C := Tryd.checked) false (laidWorld os) #[.slice none 0 0, .string .empty] rfl (by kernel_rfl) (by kernel_rfl) (by kernel_rfl)
      (OpenSpec.preRow_of_cond 8 hx (by kernel_rfl) (fun k hk => by cases hk; kernel_rfl) (by kernel_rfl) (laid_met os))) ?_
  intro W base args ds gs before hval hW _ hcond _ _ _ _
  have hb := smallUp (hcond _ rfl)
  rw [bulkDs_append] at hb
  exact law_calls (m := 20) (shss := [[.l sh_api_Change], [.s]]) rfl (tb := 4) (by kernel_rfl) Tryd.underlying4 (by kernel_rfl) (by kernel_rfl) (by kernel_rfl) (fun ds h => match ds, h with | [_, _], _ => rfl)
    (fun rows h1 h2 => does rows h1 (by omega)) hval hW (by simp only [Lim]; omega)
theorem said : Rows.ChangesPrintUptoSaid :=
  OpenClaim.holds_of_cond 5 Tryd.f5 rfl rfl rfl rfl rfl rfl rfl ⟨rfl, rfl, rfl, rfl, rfl⟩ rfl rfl rfl rfl rfl (by kernel_rfl) Tryd.func5 (by kernel_rfl)
    (of_decide_eq_true (by kernel_rfl)) (by unfold Func.isWrapper; first | (rw [if_pos (by decide +kernel)]; kernel_rfl) | (rw [if_neg (by decide +kernel)]; exact ⟨rfl, rfl⟩))
    (fun os started H enc _ F => by rw [OpenClaim.pre_eq_preRow]; exact lifted os started H enc F)
theorem plain (f : FuncId) (fn : Func) (hf : Tryd.pinned.checked.prog.funcNamed "outfitter/outlaw1.ChangesPrint" = some f) (hfn : Tryd.pinned.checked.prog.funcs[f]? = some fn) :
    false = Tryd.pinned.checked.prog.looks [] ∧ ∀ (j : Nat) t, fn.params[j]? = some t → Tryd.pinned.checked.prog.wantsStandIn t = false := by
  obtain rfl : f = 5 := Option.some.inj ((show Tryd.prog.funcNamed "outfitter/outlaw1.ChangesPrint" = some 5 by kernel_rfl).symm.trans hf) |>.symm
  obtain rfl : fn = Tryd.f5 := (Option.some.inj (Tryd.func5.symm.trans hfn)).symm
  refine ⟨by kernel_rfl, fun j t ht => ?_⟩
  have hall : Tryd.f5.params.toList.all (fun t => !Tryd.prog.wantsStandIn t) = true := by kernel_rfl
  have hm : t ∈ Tryd.f5.params.toList := by
    have := Array.mem_of_getElem? ht
    simpa using this
  have := List.all_eq_true.1 hall t hm
  show Tryd.prog.wantsStandIn t = false
  simpa using this
theorem changesPrint_proved : Rows.ChangesPrintUptoCardSaid :=
  Claim7.holds_tied_plain_at .later [] _ _ _ _ said (fun _ h => by cases h) (by kernel_rfl) (fun _ h => by cases h) changesPrintUpto_row_tie rfl ⟨rfl, rfl⟩ (by kernel_rfl) rfl plain (by kernel_rfl)
end Go.Proofs.YtbfemlilfeahkaaDoor
#print axioms Go.Proofs.YtbfemlilfeahkaaDoor.changesPrint_proved
