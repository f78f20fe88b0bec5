/-
  DERIVED. GIVEN WITH THE SEED: THE CARDS: each row of YthmjpfooffbhhaaGreatDoorRows.lean that lists a variable, with what it lists TIED to the program's text (the seventh form; the later family's looks); each row that meets fmt, with fmt's text TOLD by the authors' own Lean function (tested against real Go, not proved from fmt's source: count such statements apart). THE CARD IS WHAT COUNTS. Prove the row's statement (the work); the ties are given (YthmjpfooffbhhaaGreatDoorTie.lean); close each card by the builder's one call (the guide's Derived/Test/ToyasCard.lean, 'card_holds'). Laid BY PROGRAM, IN A SANDBOX (cutbox-door.mjs). By AI agents, Wed Nov 11 2026. No macro, syntax, notation, axiom, sorry.
-/
import Derived.Test.YthmjpfooffbhhaaGreatDoorRows
import GoSem.ClaimSeven
namespace Go.Proofs.YthmjpfooffbhhaaGreatDoor
namespace Rows

/-- THE TIED CARD OF 'outlaw1.LogsJoin'. -/
def logsJoinCard : Claim7 := { stood := { row := logsJoinRow, standIns := [], harness := (true, "31ed0fa7a311c9369bb49dc895ba09a45ec4722f45ab2b4b854856a10e9625aa"), looks := true }, kinds := [], alts := [], laidByText := true, laidKinds := [.data, .data, .data, .data, .sentinel, .sentinel, .pinned], laidTests := true, laidLooks := .later }
def LogsJoinCardSaid : Prop := Claim7.holds Tryz.pinned (.plain (OpenSpec.ofChange logsJoinSpec)) logsJoinCard

/-- THE TIED CARD OF 'outlaw1.LogsCompact'. -/
def logsCompactCard : Claim7 := { stood := { row := logsCompactRow, standIns := [], harness := (true, "31ed0fa7a311c9369bb49dc895ba09a45ec4722f45ab2b4b854856a10e9625aa"), looks := true }, kinds := [], alts := [], laidByText := true, laidKinds := [.data, .data, .data, .data, .sentinel, .sentinel, .pinned], laidTests := true, laidLooks := .later }
def LogsCompactCardSaid : Prop := Claim7.holds Tryz.pinned (.plain (OpenSpec.ofChange logsCompactSpec)) logsCompactCard

/-- THE TIED CARD OF 'outlaw1.ReportsMatch'. -/
def reportsMatchCard : Claim7 := { stood := { row := reportsMatchRow, standIns := [], harness := (true, "31ed0fa7a311c9369bb49dc895ba09a45ec4722f45ab2b4b854856a10e9625aa"), looks := true }, kinds := [], alts := [], laidByText := true, laidKinds := [.data, .data, .data, .data, .sentinel, .sentinel, .pinned], laidTests := true, laidLooks := .later }
def ReportsMatchCardSaid : Prop := Claim7.holds Tryz.pinned (.plain (OpenSpec.ofChange reportsMatchSpec)) reportsMatchCard

/-- THE SECOND FORM's CARD OF 'outlaw1.LogsJoin'. -/
def logsJoinUptoCard : Claim7 := { stood := { row := logsJoinUptoRow, standIns := [], harness := (true, "31ed0fa7a311c9369bb49dc895ba09a45ec4722f45ab2b4b854856a10e9625aa"), looks := true }, kinds := [], alts := [], laidByText := true, laidKinds := [.data, .data, .data, .data, .sentinel, .sentinel, .pinned], laidTests := true, laidLooks := .later }
def LogsJoinUptoCardSaid : Prop := Claim7.holds Tryz.pinned (.plain (OpenSpec.upto logsJoinSpec)) logsJoinUptoCard

/-- THE SECOND FORM's CARD OF 'outlaw1.LogsCompact'. -/
def logsCompactUptoCard : Claim7 := { stood := { row := logsCompactUptoRow, standIns := [], harness := (true, "31ed0fa7a311c9369bb49dc895ba09a45ec4722f45ab2b4b854856a10e9625aa"), looks := true }, kinds := [], alts := [], laidByText := true, laidKinds := [.data, .data, .data, .data, .sentinel, .sentinel, .pinned], laidTests := true, laidLooks := .later }
def LogsCompactUptoCardSaid : Prop := Claim7.holds Tryz.pinned (.plain (OpenSpec.upto logsCompactSpec)) logsCompactUptoCard

/-- THE SECOND FORM's CARD OF 'outlaw1.ReportsMatch'. -/
def reportsMatchUptoCard : Claim7 := { stood := { row := reportsMatchUptoRow, standIns := [], harness := (true, "31ed0fa7a311c9369bb49dc895ba09a45ec4722f45ab2b4b854856a10e9625aa"), looks := true }, kinds := [], alts := [], laidByText := true, laidKinds := [.data, .data, .data, .data, .sentinel, .sentinel, .pinned], laidTests := true, laidLooks := .later }
def ReportsMatchUptoCardSaid : Prop := Claim7.holds Tryz.pinned (.plain (OpenSpec.upto reportsMatchSpec)) reportsMatchUptoCard
end Rows
end Go.Proofs.YthmjpfooffbhhaaGreatDoor
