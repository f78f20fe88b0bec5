/- The statement, proved: of every input of bulk at most 1048576 the law's function says true, and the input reads as it did. -/
import Derived.Test.YtaabfmccihcnkaaGreatDoorCards
import Derived.Test.YtaabfmccihcnkaaGreatDoorTie
import Derived.Deep.DeepHandedRow
import Derived.Lib.LaidTab
import Derived.Lay
import Derived.Deep.DeepWitnessRowRef
import Derived.Test.YtaabfmccihcnkaaGreatDoorSuWk1
import Derived.Test.YtaabfmccihcnkaaGreatDoorSuWk2
import Derived.Test.YtaabfmccihcnkaaGreatDoorSuWk3
import Derived.Test.YtaabfmccihcnkaaGreatDoorSuWk4
import Derived.Test.YtaabfmccihcnkaaGreatDoorSuWk5
import Derived.Test.YtaabfmccihcnkaaGreatDoorSuWk6
import Derived.Test.YtaabfmccihcnkaaGreatDoorSuWk7
import Derived.Test.YtaabfmccihcnkaaGreatDoorSuWk8
import Derived.Test.YtaabfmccihcnkaaGreatDoorSuWk9
import Derived.Test.YtaabfmccihcnkaaGreatDoorSuPl
namespace Go.Proofs.YtaabfmccihcnkaaGreatDoor
open Go.Vc Go.Md
theorem own : ownKnob Tryz.prog.godebug = none := by kernel_rfl
mutual
theorem bulk_eq {H : Type} : ∀ d : DataW H, Rows.uptoBulk d = bulkD d
  | .lit l => by cases l <;> simp only [Rows.uptoBulk, bulkD]
  | .nil => by simp only [Rows.uptoBulk, bulkD]
  | .ptr d => by simp only [Rows.uptoBulk, bulkD, bulk_eq d]
  | .slice a b => by simp only [Rows.uptoBulk, bulkD, bulks_eq a, bulks_eq b]
  | .agg a => by simp only [Rows.uptoBulk, bulkD, bulks_eq a]
  | .iface _ d => by simp only [Rows.uptoBulk, bulkD, bulk_eq d]
  | .map es => by simp only [Rows.uptoBulk, bulkD, bulkEs_eq es]
  | .held _ => by simp only [Rows.uptoBulk, bulkD]
theorem bulks_eq {H : Type} : ∀ d : List (DataW H), Rows.uptoBulkAll d = bulkDs d
  | [] => by simp only [Rows.uptoBulkAll, bulkDs]
  | d :: r => by simp only [Rows.uptoBulkAll, bulkDs, bulk_eq d, bulks_eq r]
theorem bulkEs_eq {H : Type} : ∀ d : List (Lit × DataW H), Rows.uptoBulkEntries d = bulkEs d
  | [] => by simp only [Rows.uptoBulkEntries, bulkEs]
  | x :: r => by simp only [Rows.uptoBulkEntries, bulkEs, bulkE_eq x, bulkEs_eq r]
theorem bulkE_eq {H : Type} : ∀ d : Lit × DataW H, Rows.uptoBulkEntry d = bulkE d
  | (l, d) => by cases l <;> simp only [Rows.uptoBulkEntry, bulkE, bulk_eq d]
end
theorem smallUp {H : Type} {l : List (DataW H)} (hk : Rows.uptoSmall H l = true) : bulkDs l ≤ 1048576 := by
  rw [← bulks_eq]; exact of_decide_eq_true hk
theorem fits (m : api_Machine) (h : bulkR (enc_api_Machine m) ≤ 1048576) : Fit m := by
  simp only [enc_api_Machine, bulkR, bulkT] at h
  have l1 := bulk_map_len (f := enc_api_Setting) (fun x e => by simp [enc_api_Setting] at e) m.Facts
  have l2 := bulk_map_len (f := enc_api_File) (fun x e => by simp [enc_api_File] at e) m.Files
  have l3 := bulk_map_len (f := enc_api_Setting) (fun x e => by simp [enc_api_Setting] at e) m.Settings
  have l4 := bulk_map_len (f := enc_api_Service) (fun x e => by simp [enc_api_Service] at e) m.Services
  refine ⟨by omega, by omega, by omega, by omega, fun x hx => ?_, fun x hx => ?_, fun x hx => ?_⟩
  · have := bulk_map_mem (f := enc_api_File) hx
    simp only [enc_api_File, bulkR, bulkT] at this
    simp only [Sm]; omega
  · have := bulk_map_mem (f := enc_api_Setting) hx
    simp only [enc_api_Setting, bulkR, bulkT] at this
    simp only [Sm]; omega
  · have := bulk_map_mem (f := enc_api_Service) hx
    simp only [enc_api_Service, bulkR, bulkT] at this
    simp only [Sm]; omega
theorem does (rows : List (List Dt)) (h : hasAll rows [[.s], sh_api_Machine, sh_api_Machine]) (hb : bulkRs rows ≤ 1048576) :
    Does Tryz.prog 4 (argVs [false, true, true] rows) [] fun r X => r = .p (.b true) ∧ X = [] := by
  rcases rows with _ | ⟨r0, _ | ⟨r1, _ | ⟨r2, _ | _⟩⟩⟩ <;> simp only [hasAll, and_false, and_true] at h
  obtain ⟨h0, h1, h2⟩ := h
  obtain ⟨a0, rfl⟩ := dec1_s r0 h0
  obtain ⟨a1, rfl⟩ := dec_api_Machine r1 h1
  obtain ⟨a2, rfl⟩ := dec_api_Machine r2 h2
  simp only [bulkRs] at hb
  exact ok_Law_SumsMatch a0 a1 a2 true (law_su a0 a1 a2 (fits a1 (by omega)))

/-! ### the row -/
noncomputable def laidWorld (os : Os) : World := World.laidAll Tryz.prog os Rows.sumsMatchUptoRow.laid
theorem laid_met (os : Os) : laidMet Tryz.prog Rows.sumsMatchUptoRow.laid ((laidWorld os).forCall (fun _ _ => 0) ⟨#[], #[.string .empty, .agg #[.slice none 0 0, .slice none 0 0, .slice none 0 0, .slice none 0 0], .agg #[.slice none 0 0, .slice none 0 0, .slice none 0 0, .slice none 0 0]], []⟩).memory :=
  laidMet_laidAll _ (by kernel_rfl) (by kernel_rfl)
theorem laidMet_tail {P : Program} {W : World} {x : String × DataW Unit} {l : List (String × DataW Unit)} (h : laidMet P (x :: l) W) : laidMet P l W := by
  obtain ⟨n, d⟩ := x
  obtain ⟨ps, ⟨g, t, cs, fuel, p, q, h1, h2, h3, h4, h5, rfl⟩, h6, h7⟩ := h
  exact ⟨q, h5, (List.nodup_append.1 h6).2.1, fun b off hm => h7 b off (List.mem_append.2 (.inr hm))⟩
theorem htab {W : World} (h : laidMetH Tryz.prog Rows.sumsMatchUptoRow.laid W) : TabOk (allOf W) W.heap := by
  have h0 : laidMet Tryz.prog Rows.sumsMatchUptoRow.laid W := by rw [← MakeChecks.laidMetH_plain _ _ _ (by kernel_rfl)]; exact h
  have q5 : laidMet Tryz.prog (("math/bits.deBruijn64tab", Lib.tabData .u8 tabL_5) :: Rows.sumsMatchUptoRow.laid.drop 2) W := laidMet_tail h0
  have t5 : Lib.TabIs Tryz.prog W "math/bits.deBruijn64tab" .u8 tabL_5 := Lib.tabIs_of_head (g := 5) (t := 436) (e := 5) (n := 64) (by kernel_rfl) (by kernel_rfl) (by kernel_rfl) (by kernel_rfl) (by kernel_rfl) (by kernel_rfl) q5
  have g5 : ∃ T fr, W.heap[5]? = some (.cells (tabL_5.map (Value.int .u8)).toArray T fr) := by
    have e := t5
    unfold Lib.TabIs World.var? at e
    rw [show Tryz.prog.globalNamed "math/bits.deBruijn64tab" = some 5 by kernel_rfl] at e
    simp only [Option.bind_some] at e
    split at e
    · rename_i cs T fr hc
      cases e
      exact ⟨T, fr, hc⟩
    · cases e
  intro b k l e
  have hlt : ∀ b T cs fr, W.heap[b]? = some (.cells cs T fr) → b < W.heap.size := fun b T cs fr hb => (Array.getElem?_eq_some_iff.1 hb).1
  have e : (bif Nat.beq b 5 then some (IntKind.u8, tabL_5) else none) = some (k, l) := e
  cases hb5 : Nat.beq b 5 <;> rw [hb5] at e
  rotate_left
  · cases e
    obtain rfl := Nat.eq_of_beq_eq_true hb5
    obtain ⟨T, fr, hc⟩ := g5
    exact ⟨hlt _ _ _ _ hc, ⟨T, fr, hc⟩, by simp only [Fits, lo, hi]; decide⟩
  rw [cond_false] at e
  cases e
theorem reads (os : Os) {H : Type} (enc : TypeId × Value → H) : ∃ places, DataW.whole enc Tryz.prog ((laidWorld os).forCall (fun _ _ => 0) ⟨#[], #[.string .empty, .agg #[.slice none 0 0, .slice none 0 0, .slice none 0 0, .slice none 0 0], .agg #[.slice none 0 0, .slice none 0 0, .slice none 0 0, .slice none 0 0]], []⟩).memory Tryz.f4.params.toList Rows.sumsMatchSpec.vars false (#[.string .empty, .agg #[.slice none 0 0, .slice none 0 0, .slice none 0 0, .slice none 0 0], .agg #[.slice none 0 0, .slice none 0 0, .slice none 0 0, .slice none 0 0]] : Array Value).toList 8 = some ([.lit (.string []), .agg [.nil, .nil, .nil, .nil], .agg [.nil, .nil, .nil, .nil]], [], places) :=
  ⟨[], by kernel_rfl⟩
set_option maxRecDepth 100000 in
theorem lifted (os : Os) (started : os.Started) (H : Type) (enc : TypeId × Value → H) (F : Stop.Interp) :
    ReturnsInHanded {} Tryz.checked os 4 .any ((Rows.OpenSpec.upto Rows.sumsMatchSpec).preRow enc Tryz.prog Tryz.f4 Rows.sumsMatchUptoRow.domain false Rows.sumsMatchUptoRow.laid) (((Rows.OpenSpec.upto Rows.sumsMatchSpec).at F).post enc Tryz.prog Tryz.f4 false true false false) := by
  obtain ⟨places, hx⟩ := reads os enc
  refine returnsInHanded_of_row (C := Tryz.checked) (s := Rows.OpenSpec.upto Rows.sumsMatchSpec) own started (by kernel_rfl) Tryz.func4
    (witness_row_atRef (enc := enc) (C := Tryz.checked) false (laidWorld os) #[.string .empty, .agg #[.slice none 0 0, .slice none 0 0, .slice none 0 0, .slice none 0 0], .agg #[.slice none 0 0, .slice none 0 0, .slice none 0 0, .slice none 0 0]] (World.laidAll_os _ _ _) (by kernel_rfl) (by kernel_rfl) (by kernel_rfl)
      (OpenSpec.preRow_of_cond 8 hx (by kernel_rfl) (fun k hk => by cases hk; kernel_rfl) (by kernel_rfl) (laid_met os))) ?_
  intro W base args ds gs before hval hW _ hcond _ hL _ _
  have hb := smallUp (hcond _ rfl)
  rw [bulkDs_append] at hb
  exact law_calls (htab := htab hL) (m := 20) (shss := [[.s], sh_api_Machine, sh_api_Machine]) rfl (tb := 4) (by kernel_rfl) Tryz.underlying4 (by kernel_rfl) (by kernel_rfl) (by kernel_rfl) (fun ds h => match ds, h with | [_, _, _], _ => rfl)
    (fun rows h1 h2 => does rows h1 (by omega)) hval hW (by simp only [Lim]; omega)
end Go.Proofs.YtaabfmccihcnkaaGreatDoor
