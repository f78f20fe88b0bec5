/-
  DERIVED. GIVEN WITH THE SEED: THE CARDS: each row of YtggigadnagoglafGreatDoorRows.lean that lists a variable, with what it lists TIED to the program's text (the seventh form; the later family's looks); each row that meets fmt, with fmt's text TOLD by the authors' own Lean function (tested against real Go, not proved from fmt's source: count such statements apart). THE CARD IS WHAT COUNTS. Prove the row's statement (the work); the ties are given (YtggigadnagoglafGreatDoorTie.lean); close each card by the builder's one call (the guide's Derived/Test/ToyasCard.lean, 'card_holds'). Laid BY PROGRAM, IN A SANDBOX (cutbox-door.mjs). By AI agents, Wed Nov 11 2026. No macro, syntax, notation, axiom, sorry.
-/
import Derived.Test.YtggigadnagoglafGreatDoorRows
import GoSem.ClaimSeven
namespace Go.Proofs.YtggigadnagoglafGreatDoor
namespace Rows

/-- THE TIED CARD OF 'outtop.TopRepairs'. -/
def topRepairsCard : Claim7 := { stood := { row := topRepairsRow, standIns := [], harness := (true, "d556f7c56dfbe7206cda5bc01c9f8680f1120aaa5e983ec7cc94d39f27e0673c"), looks := false }, kinds := [], alts := [], laidByText := true, laidKinds := [.data, .pinned], laidTests := true, laidLooks := .later }
def TopRepairsCardSaid : Prop := Claim7.holds Tryz.pinned (.plain (OpenSpec.ofChange topRepairsSpec)) topRepairsCard

/-- THE SECOND FORM's CARD OF 'outtop.TopRepairs'. -/
def topRepairsUptoCard : Claim7 := { stood := { row := topRepairsUptoRow, standIns := [], harness := (true, "d556f7c56dfbe7206cda5bc01c9f8680f1120aaa5e983ec7cc94d39f27e0673c"), looks := false }, kinds := [], alts := [], laidByText := true, laidKinds := [.data, .pinned], laidTests := true, laidLooks := .later }
def TopRepairsUptoCardSaid : Prop := Claim7.holds Tryz.pinned (.plain (OpenSpec.upto topRepairsSpec)) topRepairsUptoCard
end Rows
end Go.Proofs.YtggigadnagoglafGreatDoor
