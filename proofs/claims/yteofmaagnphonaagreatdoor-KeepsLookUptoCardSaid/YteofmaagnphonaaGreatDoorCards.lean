/-
  DERIVED. GIVEN WITH THE SEED: THE CARDS: each row of YteofmaagnphonaaGreatDoorRows.lean that lists a variable, with what it lists TIED to the program's text (the seventh form; the later family's looks); each row that meets fmt, with fmt's text TOLD by the authors' own Lean function (tested against real Go, not proved from fmt's source: count such statements apart). THE CARD IS WHAT COUNTS. Prove the row's statement (the work); the ties are given (YteofmaagnphonaaGreatDoorTie.lean); close each card by the builder's one call (the guide's Derived/Test/ToyasCard.lean, 'card_holds'). Laid BY PROGRAM, IN A SANDBOX (cutbox-door.mjs). By AI agents, Wed Nov 11 2026. No macro, syntax, notation, axiom, sorry.
-/
import Derived.Test.YteofmaagnphonaaGreatDoorRows
import GoSem.ClaimSeven
namespace Go.Proofs.YteofmaagnphonaaGreatDoor
namespace Rows

/-- THE TIED CARD OF 'outlaw1.KeepsLook'. -/
def keepsLookCard : Claim7 := { stood := { row := keepsLookRow, standIns := [], harness := (true, "647864645b6aa17a3355753e38691946fb2ca70b74aee61c3acbad0293f3cfa3"), looks := false }, kinds := [], alts := [], laidByText := true, laidKinds := [.data, .data, .data, .data, .pinned], laidTests := true, laidLooks := .later }
def KeepsLookCardSaid : Prop := Claim7.holds Tryz.pinned (.plain (OpenSpec.ofChange keepsLookSpec)) keepsLookCard

/-- THE SECOND FORM's CARD OF 'outlaw1.KeepsLook'. -/
def keepsLookUptoCard : Claim7 := { stood := { row := keepsLookUptoRow, standIns := [], harness := (true, "647864645b6aa17a3355753e38691946fb2ca70b74aee61c3acbad0293f3cfa3"), looks := false }, kinds := [], alts := [], laidByText := true, laidKinds := [.data, .data, .data, .data, .pinned], laidTests := true, laidLooks := .later }
def KeepsLookUptoCardSaid : Prop := Claim7.holds Tryz.pinned (.plain (OpenSpec.upto keepsLookSpec)) keepsLookUptoCard
end Rows
end Go.Proofs.YteofmaagnphonaaGreatDoor
