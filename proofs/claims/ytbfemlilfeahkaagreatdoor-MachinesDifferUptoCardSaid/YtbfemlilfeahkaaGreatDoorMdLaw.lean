/- The statement, proved: of every input of bulk at most 1048576 the law's function says true, and the input reads as it did. -/
import Derived.Test.YtbfemlilfeahkaaGreatDoorCards
import Derived.Test.YtbfemlilfeahkaaGreatDoorTie
import Derived.Deep.DeepHandedRow
import Derived.Lib.LaidTab
import Derived.Test.YtbfemlilfeahkaaGreatDoorMdWk1
import Derived.Test.YtbfemlilfeahkaaGreatDoorMdWk2
import Derived.Test.YtbfemlilfeahkaaGreatDoorMdWk3
import Derived.Test.YtbfemlilfeahkaaGreatDoorMdWk4
import Derived.Test.YtbfemlilfeahkaaGreatDoorMdWk5
import Derived.Test.YtbfemlilfeahkaaGreatDoorMdWk6
import Derived.Test.YtbfemlilfeahkaaGreatDoorMdWk7
import Derived.Test.YtbfemlilfeahkaaGreatDoorMdWk8
import Derived.Test.YtbfemlilfeahkaaGreatDoorMdWk9
import Derived.Test.YtbfemlilfeahkaaGreatDoorMdPl
namespace Go.Proofs.YtbfemlilfeahkaaGreatDoor
open Go.Vc Go.Md
theorem own : ownKnob Tryz.prog.godebug = none := by kernel_rfl
mutual
theorem bulk_eq {H : Type} : ∀ d : DataW H, Rows.uptoBulk d = bulkD d
  | .lit l => by cases l <;> simp only [Rows.uptoBulk, bulkD]
  | .nil => by simp only [Rows.uptoBulk, bulkD]
  | .ptr d => by simp only [Rows.uptoBulk, bulkD, bulk_eq d]
  | .slice a b => by simp only [Rows.uptoBulk, bulkD, bulks_eq a, bulks_eq b]
  | .agg a => by simp only [Rows.uptoBulk, bulkD, bulks_eq a]
  | .iface _ d => by simp only [Rows.uptoBulk, bulkD, bulk_eq d]
  | .map es => by simp only [Rows.uptoBulk, bulkD, bulkEs_eq es]
  | .held _ => by simp only [Rows.uptoBulk, bulkD]
theorem bulks_eq {H : Type} : ∀ d : List (DataW H), Rows.uptoBulkAll d = bulkDs d
  | [] => by simp only [Rows.uptoBulkAll, bulkDs]
  | d :: r => by simp only [Rows.uptoBulkAll, bulkDs, bulk_eq d, bulks_eq r]
theorem bulkEs_eq {H : Type} : ∀ d : List (Lit × DataW H), Rows.uptoBulkEntries d = bulkEs d
  | [] => by simp only [Rows.uptoBulkEntries, bulkEs]
  | x :: r => by simp only [Rows.uptoBulkEntries, bulkEs, bulkE_eq x, bulkEs_eq r]
theorem bulkE_eq {H : Type} : ∀ d : Lit × DataW H, Rows.uptoBulkEntry d = bulkE d
  | (l, d) => by cases l <;> simp only [Rows.uptoBulkEntry, bulkE, bulk_eq d]
end
theorem smallUp {H : Type} {l : List (DataW H)} (hk : Rows.uptoSmall H l = true) : bulkDs l ≤ 1048576 := by
  rw [← bulks_eq]; exact of_decide_eq_true hk
theorem dec1_b : ∀ r, hasR r [.b] → ∃ x, r = ecB x := by
  intro r h
  rcases r with _ | ⟨d, _ | _⟩ <;> simp only [hasR, and_false, and_true] at h
  cases d <;> simp only [hasT] at h
  exact ⟨_, rfl⟩
theorem fits (m : api_Machine) (h : bulkR (enc_api_Machine m) ≤ 1048576) : Fit m := by
  simp only [enc_api_Machine, bulkR, bulkT] at h
  have l1 := bulk_map_len (f := enc_api_Setting) (fun x e => by simp [enc_api_Setting] at e) m.Facts
  have l2 := bulk_map_len (f := enc_api_File) (fun x e => by simp [enc_api_File] at e) m.Files
  have l3 := bulk_map_len (f := enc_api_Setting) (fun x e => by simp [enc_api_Setting] at e) m.Settings
  have l4 := bulk_map_len (f := enc_api_Service) (fun x e => by simp [enc_api_Service] at e) m.Services
  refine ⟨by omega, by omega, by omega, by omega, fun x hx => ?_, fun x hx => ?_, fun x hx => ?_⟩
  · have := bulk_map_mem (f := enc_api_File) hx
    simp only [enc_api_File, bulkR, bulkT] at this
    simp only [Sm]; omega
  · have := bulk_map_mem (f := enc_api_Setting) hx
    simp only [enc_api_Setting, bulkR, bulkT] at this
    simp only [Sm]; omega
  · have := bulk_map_mem (f := enc_api_Service) hx
    simp only [enc_api_Service, bulkR, bulkT] at this
    simp only [Sm]; omega
theorem does (rows : List (List Dt)) (h : hasAll rows [sh_api_Machine, sh_api_Machine, [.b]]) (hb : bulkRs rows ≤ 1048576) :
    Does Tryz.prog 7 (argVs [true, true, false] rows) [] fun r X => r = .p (.b true) ∧ X = [] := by
  rcases rows with _ | ⟨r0, _ | ⟨r1, _ | ⟨r2, _ | _⟩⟩⟩ <;> simp only [hasAll, and_false, and_true] at h
  obtain ⟨h0, h1, h2⟩ := h
  obtain ⟨a0, rfl⟩ := dec_api_Machine r0 h0
  obtain ⟨a1, rfl⟩ := dec_api_Machine r1 h1
  obtain ⟨a2, rfl⟩ := dec1_b r2 h2
  simp only [bulkRs] at hb
  exact ok_Law_MachinesDiffer a0 a1 a2 true (law_md a0 a1 a2 (fits a0 (by omega)) (fits a1 (by omega)))

/-! ### the row -/
def cellsD : DataW Unit → List Value
  | .lit (.int k n) => [.int k n]
  | .agg ds => cellsDs ds
  | _ => []
where cellsDs : List (DataW Unit) → List Value
  | [] => []
  | d :: ds => cellsD d ++ cellsDs ds
def lay (g : Option Nat) (d : DataW Unit) (h : Array Obj) : Array Obj := match g with
  | some g => h.modify g fun
      | .cells _ t frozen => .cells (cellsD d).toArray t frozen
      | o => o
  | none => h
noncomputable def laidWorld (os : Os) : World :=
  { World.holding Tryz.prog os ⟨#[], #[], []⟩ with heap := lay (Tryz.prog.globalNamed "unicode/utf8.acceptRanges") Rows.laid_unicode_utf8_acceptRanges (lay (Tryz.prog.globalNamed "unicode/utf8.first") Rows.laid_unicode_utf8_first (World.holding Tryz.prog os ⟨#[], #[], []⟩).heap) }
theorem laid_met (os : Os) : laidMet Tryz.prog Rows.machinesDifferUptoRow.laid ((laidWorld os).forCall (fun _ _ => 0) ⟨#[], #[.agg #[.slice none 0 0, .slice none 0 0, .slice none 0 0, .slice none 0 0], .agg #[.slice none 0 0, .slice none 0 0, .slice none 0 0, .slice none 0 0], .bool false], []⟩).memory :=
  laidMet_of_run' 8 (by kernel_rfl) (by kernel_rfl)
theorem reads (os : Os) {H : Type} (enc : TypeId × Value → H) : ∃ places, DataW.whole enc Tryz.prog ((laidWorld os).forCall (fun _ _ => 0) ⟨#[], #[.agg #[.slice none 0 0, .slice none 0 0, .slice none 0 0, .slice none 0 0], .agg #[.slice none 0 0, .slice none 0 0, .slice none 0 0, .slice none 0 0], .bool false], []⟩).memory Tryz.f7.params.toList Rows.machinesDifferSpec.vars false (#[.agg #[.slice none 0 0, .slice none 0 0, .slice none 0 0, .slice none 0 0], .agg #[.slice none 0 0, .slice none 0 0, .slice none 0 0, .slice none 0 0], .bool false] : Array Value).toList 8 = some ([.agg [.nil, .nil, .nil, .nil], .agg [.nil, .nil, .nil, .nil], .lit (.bool false)], [], places) :=
  ⟨[], by kernel_rfl⟩
set_option maxRecDepth 100000 in
theorem lifted (os : Os) (started : os.Started) (H : Type) (enc : TypeId × Value → H) (F : Stop.Interp) :
    ReturnsInHanded {} Tryz.checked os 7 .any ((Rows.OpenSpec.upto Rows.machinesDifferSpec).preRow enc Tryz.prog Tryz.f7 Rows.machinesDifferUptoRow.domain false Rows.machinesDifferUptoRow.laid) (((Rows.OpenSpec.upto Rows.machinesDifferSpec).at F).post enc Tryz.prog Tryz.f7 false true false false) := by
  obtain ⟨places, hx⟩ := reads os enc
  refine returnsInHanded_of_row (C := Tryz.checked) (s := Rows.OpenSpec.upto Rows.machinesDifferSpec) own started (by kernel_rfl) Tryz.func7
    (witness_row_at (enc := enc) (C := Tryz.checked) false (laidWorld os) #[.agg #[.slice none 0 0, .slice none 0 0, .slice none 0 0, .slice none 0 0], .agg #[.slice none 0 0, .slice none 0 0, .slice none 0 0, .slice none 0 0], .bool false] rfl (by kernel_rfl) (by kernel_rfl) (by kernel_rfl)
      (OpenSpec.preRow_of_cond 8 hx (by kernel_rfl) (fun k hk => by cases hk; kernel_rfl) (by kernel_rfl) (laid_met os))) ?_
  intro W base args ds gs before hval hW _ hcond _ _ _ _
  have hb := smallUp (hcond _ rfl)
  rw [bulkDs_append] at hb
  exact law_calls (htab := fun b k l e => by cases e) (m := 20) (shss := [sh_api_Machine, sh_api_Machine, [.b]]) rfl (tb := 4) (by kernel_rfl) Tryz.underlying4 (by kernel_rfl) (by kernel_rfl) (by kernel_rfl) (fun ds h => match ds, h with | [_, _, _], _ => rfl)
    (fun rows h1 h2 => does rows h1 (by omega)) hval hW (by simp only [Lim]; omega)
theorem said : Rows.MachinesDifferUptoSaid :=
  OpenClaim.holds_of_cond 7 Tryz.f7 rfl rfl rfl rfl rfl rfl rfl ⟨rfl, rfl, rfl, rfl, rfl⟩ rfl rfl rfl rfl rfl (by kernel_rfl) Tryz.func7 (by kernel_rfl)
    (of_decide_eq_true (by kernel_rfl)) (by unfold Func.isWrapper; first | (rw [if_pos (by decide +kernel)]; kernel_rfl) | (rw [if_neg (by decide +kernel)]; exact ⟨rfl, rfl⟩))
    (fun os started H enc _ F => by rw [OpenClaim.pre_eq_preRow]; exact lifted os started H enc F)
theorem plain (f : FuncId) (fn : Func) (hf : Tryz.pinned.checked.prog.funcNamed "outfitter/outlaw1.MachinesDiffer" = some f) (hfn : Tryz.pinned.checked.prog.funcs[f]? = some fn) :
    false = Tryz.pinned.checked.prog.looks [] ∧ ∀ (j : Nat) t, fn.params[j]? = some t → Tryz.pinned.checked.prog.wantsStandIn t = false := by
  obtain rfl : f = 7 := Option.some.inj ((show Tryz.prog.funcNamed "outfitter/outlaw1.MachinesDiffer" = some 7 by kernel_rfl).symm.trans hf) |>.symm
  obtain rfl : fn = Tryz.f7 := (Option.some.inj (Tryz.func7.symm.trans hfn)).symm
  refine ⟨by kernel_rfl, fun j t ht => ?_⟩
  have hall : Tryz.f7.params.toList.all (fun t => !Tryz.prog.wantsStandIn t) = true := by kernel_rfl
  have hm : t ∈ Tryz.f7.params.toList := by
    have := Array.mem_of_getElem? ht
    simpa using this
  have := List.all_eq_true.1 hall t hm
  show Tryz.prog.wantsStandIn t = false
  simpa using this
theorem machinesDiffer_proved : Rows.MachinesDifferUptoCardSaid :=
  Claim7.holds_tied_plain_at .later [] _ _ _ _ said (fun _ h => by cases h) (by kernel_rfl) (fun _ h => by cases h) machinesDifferUpto_row_tie rfl ⟨rfl, rfl⟩ (by kernel_rfl) rfl plain (by kernel_rfl)
end Go.Proofs.YtbfemlilfeahkaaGreatDoor
#print axioms Go.Proofs.YtbfemlilfeahkaaGreatDoor.machinesDiffer_proved
