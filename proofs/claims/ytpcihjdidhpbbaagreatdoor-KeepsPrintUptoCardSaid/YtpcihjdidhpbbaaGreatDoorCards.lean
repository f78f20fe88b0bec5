/-
  DERIVED. GIVEN WITH THE SEED: THE CARDS: each row of YtpcihjdidhpbbaaGreatDoorRows.lean that lists a variable, with what it lists TIED to the program's text (the seventh form; the later family's looks); each row that meets fmt, with fmt's text TOLD by the authors' own Lean function (tested against real Go, not proved from fmt's source: count such statements apart). THE CARD IS WHAT COUNTS. Prove the row's statement (the work); the ties are given (YtpcihjdidhpbbaaGreatDoorTie.lean); close each card by the builder's one call (the guide's Derived/Test/ToyasCard.lean, 'card_holds'). Laid BY PROGRAM, IN A SANDBOX (cutbox-door.mjs). By AI agents, Wed Nov 11 2026. No macro, syntax, notation, axiom, sorry.
-/
import Derived.Test.YtpcihjdidhpbbaaGreatDoorRows
import GoSem.ClaimSeven
namespace Go.Proofs.YtpcihjdidhpbbaaGreatDoor
namespace Rows

/-- THE TIED CARD OF 'outlaw1.KeepsPrint'. -/
def keepsPrintCard : Claim7 := { stood := { row := keepsPrintRow, standIns := [], harness := (true, "bea463cb8b79dcb9155c8fe792894ff3a8bec33c6ea061c188aa1b78e7d0fc11"), looks := false }, kinds := [], alts := [], laidByText := true, laidKinds := [.data, .data, .data, .data, .pinned], laidTests := true, laidLooks := .later }
def KeepsPrintCardSaid : Prop := Claim7.holds Tryz.pinned (.plain (OpenSpec.ofChange keepsPrintSpec)) keepsPrintCard

/-- THE SECOND FORM's CARD OF 'outlaw1.KeepsPrint'. -/
def keepsPrintUptoCard : Claim7 := { stood := { row := keepsPrintUptoRow, standIns := [], harness := (true, "bea463cb8b79dcb9155c8fe792894ff3a8bec33c6ea061c188aa1b78e7d0fc11"), looks := false }, kinds := [], alts := [], laidByText := true, laidKinds := [.data, .data, .data, .data, .pinned], laidTests := true, laidLooks := .later }
def KeepsPrintUptoCardSaid : Prop := Claim7.holds Tryz.pinned (.plain (OpenSpec.upto keepsPrintSpec)) keepsPrintUptoCard
end Rows
end Go.Proofs.YtpcihjdidhpbbaaGreatDoor
