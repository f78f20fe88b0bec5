/-
  DERIVED. GIVEN WITH THE SEED: THE CARDS: each row of YtkojogldchfkkaaGreatDoorRows.lean that lists a variable, with what it lists TIED to the program's text (the seventh form; the later family's looks); each row that meets fmt, with fmt's text TOLD by the authors' own Lean function (tested against real Go, not proved from fmt's source: count such statements apart). THE CARD IS WHAT COUNTS. Prove the row's statement (the work); the ties are given (YtkojogldchfkkaaGreatDoorTie.lean); close each card by the builder's one call (the guide's Derived/Test/ToyasCard.lean, 'card_holds'). Laid BY PROGRAM, IN A SANDBOX (cutbox-door.mjs). By AI agents, Wed Nov 11 2026. No macro, syntax, notation, axiom, sorry.
-/
import Derived.Test.YtkojogldchfkkaaGreatDoorRows
import GoSem.ClaimSeven
namespace Go.Proofs.YtkojogldchfkkaaGreatDoor
namespace Rows

/-- THE TIED CARD OF 'outlaw1.StagesCheck'. -/
def stagesCheckCard : Claim7 := { stood := { row := stagesCheckRow, standIns := [], harness := (true, "1a0210283be1baff90a34bc50d494fa074f2f57d064b718080f438273f459368"), looks := true }, kinds := [], alts := [], laidByText := true, laidKinds := [.data, .data, .data, .data, .sentinel, .sentinel, .pinned], laidTests := true, laidLooks := .later }
def StagesCheckCardSaid : Prop := Claim7.holds Tryz.pinned (.plain (OpenSpec.ofChange stagesCheckSpec)) stagesCheckCard

/-- THE SECOND FORM's CARD OF 'outlaw1.StagesCheck'. -/
def stagesCheckUptoCard : Claim7 := { stood := { row := stagesCheckUptoRow, standIns := [], harness := (true, "1a0210283be1baff90a34bc50d494fa074f2f57d064b718080f438273f459368"), looks := true }, kinds := [], alts := [], laidByText := true, laidKinds := [.data, .data, .data, .data, .sentinel, .sentinel, .pinned], laidTests := true, laidLooks := .later }
def StagesCheckUptoCardSaid : Prop := Claim7.holds Tryz.pinned (.plain (OpenSpec.upto stagesCheckSpec)) stagesCheckUptoCard
end Rows
end Go.Proofs.YtkojogldchfkkaaGreatDoor
