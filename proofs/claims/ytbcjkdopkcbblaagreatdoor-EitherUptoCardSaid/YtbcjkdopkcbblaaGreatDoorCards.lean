/-
  DERIVED. GIVEN WITH THE SEED: THE CARDS: each row of YtbcjkdopkcbblaaGreatDoorRows.lean that lists a variable, with what it lists TIED to the program's text (the seventh form; the later family's looks); each row that meets fmt, with fmt's text TOLD by the authors' own Lean function (tested against real Go, not proved from fmt's source: count such statements apart). THE CARD IS WHAT COUNTS. Prove the row's statement (the work); the ties are given (YtbcjkdopkcbblaaGreatDoorTie.lean); close each card by the builder's one call (the guide's Derived/Test/ToyasCard.lean, 'card_holds'). Laid BY PROGRAM, IN A SANDBOX (cutbox-door.mjs). By AI agents, Wed Nov 11 2026. No macro, syntax, notation, axiom, sorry.
-/
import Derived.Test.YtbcjkdopkcbblaaGreatDoorRows
import GoSem.ClaimSeven
namespace Go.Proofs.YtbcjkdopkcbblaaGreatDoor
namespace Rows

/-- THE TIED CARD OF 'outlaw1.Either'. -/
def eitherCard : Claim7 := { stood := { row := eitherRow, standIns := [], harness := (true, "3b6595e6ccfbfe1a865d9681315710c1d92719be01dace9571c6f6a09e0a280c"), looks := true }, kinds := [], alts := [], laidByText := true, laidKinds := [.data, .data, .data, .data, .sentinel, .sentinel, .pinned], laidTests := true, laidLooks := .later }
def EitherCardSaid : Prop := Claim7.holds Tryz.pinned (.plain (OpenSpec.ofChange eitherSpec)) eitherCard

/-- THE SECOND FORM's CARD OF 'outlaw1.Either'. -/
def eitherUptoCard : Claim7 := { stood := { row := eitherUptoRow, standIns := [], harness := (true, "3b6595e6ccfbfe1a865d9681315710c1d92719be01dace9571c6f6a09e0a280c"), looks := true }, kinds := [], alts := [], laidByText := true, laidKinds := [.data, .data, .data, .data, .sentinel, .sentinel, .pinned], laidTests := true, laidLooks := .later }
def EitherUptoCardSaid : Prop := Claim7.holds Tryz.pinned (.plain (OpenSpec.upto eitherSpec)) eitherUptoCard
end Rows
end Go.Proofs.YtbcjkdopkcbblaaGreatDoor
