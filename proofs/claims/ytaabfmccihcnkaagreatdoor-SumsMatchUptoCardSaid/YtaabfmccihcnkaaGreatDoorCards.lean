/-
  DERIVED. GIVEN WITH THE SEED: THE CARDS: each row of YtaabfmccihcnkaaGreatDoorRows.lean that lists a variable, with what it lists TIED to the program's text (the seventh form; the later family's looks); each row that meets fmt, with fmt's text TOLD by the authors' own Lean function (tested against real Go, not proved from fmt's source: count such statements apart). THE CARD IS WHAT COUNTS. Prove the row's statement (the work); the ties are given (YtaabfmccihcnkaaGreatDoorTie.lean); close each card by the builder's one call (the guide's Derived/Test/ToyasCard.lean, 'card_holds'). Laid BY PROGRAM, IN A SANDBOX (cutbox-door.mjs). By AI agents, Wed Nov 11 2026. No macro, syntax, notation, axiom, sorry.
-/
import Derived.Test.YtaabfmccihcnkaaGreatDoorRows
import GoSem.ClaimSeven
namespace Go.Proofs.YtaabfmccihcnkaaGreatDoor
namespace Rows

/-- THE TIED CARD OF 'outlaw1.DisksMatch'. -/
def disksMatchCard : Claim7 := { stood := { row := disksMatchRow, standIns := [], harness := (true, "5edeb160c31615941fcdfa8c76b68ed7a349bce5fc673063c62ced11f5f65516"), looks := true }, kinds := [], alts := [], laidByText := true, laidKinds := [.data, .pinned], laidTests := true, laidLooks := .later }
def DisksMatchCardSaid : Prop := Claim7.holds Tryz.pinned (.plain (OpenSpec.ofChange disksMatchSpec)) disksMatchCard

/-- THE TIED CARD OF 'outlaw1.SumsMatch'. -/
def sumsMatchCard : Claim7 := { stood := { row := sumsMatchRow, standIns := [], harness := (true, "5edeb160c31615941fcdfa8c76b68ed7a349bce5fc673063c62ced11f5f65516"), looks := true }, kinds := [], alts := [], laidByText := true, laidKinds := [.data, .data, .data, .data, .pinned], laidTests := true, laidLooks := .later }
def SumsMatchCardSaid : Prop := Claim7.holds Tryz.pinned (.plain (OpenSpec.ofChange sumsMatchSpec)) sumsMatchCard

/-- THE TIED CARD OF 'outlaw1.LogsJoin'. -/
def logsJoinCard : Claim7 := { stood := { row := logsJoinRow, standIns := [], harness := (true, "5edeb160c31615941fcdfa8c76b68ed7a349bce5fc673063c62ced11f5f65516"), looks := true }, kinds := [], alts := [], laidByText := true, laidKinds := [.data, .data, .data, .data, .sentinel, .sentinel, .pinned], laidTests := true, laidLooks := .later }
def LogsJoinCardSaid : Prop := Claim7.holds Tryz.pinned (.plain (OpenSpec.ofChange logsJoinSpec)) logsJoinCard

/-- THE TIED CARD OF 'outlaw1.RecordsMatch'. -/
def recordsMatchCard : Claim7 := { stood := { row := recordsMatchRow, standIns := [], harness := (true, "5edeb160c31615941fcdfa8c76b68ed7a349bce5fc673063c62ced11f5f65516"), looks := true }, kinds := [], alts := [], laidByText := true, laidKinds := [.data, .data, .data, .data, .sentinel, .sentinel, .pinned], laidTests := true, laidLooks := .later }
def RecordsMatchCardSaid : Prop := Claim7.holds Tryz.pinned (.plain (OpenSpec.ofChange recordsMatchSpec)) recordsMatchCard

/-- THE TIED CARD OF 'outlaw1.LogsGrow'. -/
def logsGrowCard : Claim7 := { stood := { row := logsGrowRow, standIns := [], harness := (true, "5edeb160c31615941fcdfa8c76b68ed7a349bce5fc673063c62ced11f5f65516"), looks := true }, kinds := [], alts := [], laidByText := true, laidKinds := [.data, .data, .data, .data, .sentinel, .sentinel, .pinned], laidTests := true, laidLooks := .later }
def LogsGrowCardSaid : Prop := Claim7.holds Tryz.pinned (.plain (OpenSpec.ofChange logsGrowSpec)) logsGrowCard

/-- THE TIED CARD OF 'outlaw1.LogsCompact'. -/
def logsCompactCard : Claim7 := { stood := { row := logsCompactRow, standIns := [], harness := (true, "5edeb160c31615941fcdfa8c76b68ed7a349bce5fc673063c62ced11f5f65516"), looks := true }, kinds := [], alts := [], laidByText := true, laidKinds := [.data, .data, .data, .data, .sentinel, .sentinel, .pinned], laidTests := true, laidLooks := .later }
def LogsCompactCardSaid : Prop := Claim7.holds Tryz.pinned (.plain (OpenSpec.ofChange logsCompactSpec)) logsCompactCard

/-- THE TIED CARD OF 'outlaw1.ReportsMatch'. -/
def reportsMatchCard : Claim7 := { stood := { row := reportsMatchRow, standIns := [], harness := (true, "5edeb160c31615941fcdfa8c76b68ed7a349bce5fc673063c62ced11f5f65516"), looks := true }, kinds := [], alts := [], laidByText := true, laidKinds := [.data, .data, .data, .data, .sentinel, .sentinel, .pinned], laidTests := true, laidLooks := .later }
def ReportsMatchCardSaid : Prop := Claim7.holds Tryz.pinned (.plain (OpenSpec.ofChange reportsMatchSpec)) reportsMatchCard

/-- THE TIED CARD OF 'outlaw1.LogsOpen'. -/
def logsOpenCard : Claim7 := { stood := { row := logsOpenRow, standIns := [], harness := (true, "5edeb160c31615941fcdfa8c76b68ed7a349bce5fc673063c62ced11f5f65516"), looks := true }, kinds := [], alts := [], laidByText := true, laidKinds := [.data, .data, .data, .data, .sentinel, .sentinel, .pinned], laidTests := true, laidLooks := .later }
def LogsOpenCardSaid : Prop := Claim7.holds Tryz.pinned (.plain (OpenSpec.ofChange logsOpenSpec)) logsOpenCard

/-- THE TIED CARD OF 'outlaw1.LogsPart'. -/
def logsPartCard : Claim7 := { stood := { row := logsPartRow, standIns := [], harness := (true, "5edeb160c31615941fcdfa8c76b68ed7a349bce5fc673063c62ced11f5f65516"), looks := true }, kinds := [], alts := [], laidByText := true, laidKinds := [.data, .data, .data, .data, .sentinel, .sentinel, .pinned], laidTests := true, laidLooks := .later }
def LogsPartCardSaid : Prop := Claim7.holds Tryz.pinned (.plain (OpenSpec.ofChange logsPartSpec)) logsPartCard

/-- THE TIED CARD OF 'outlaw1.TellsMatch'. -/
def tellsMatchCard : Claim7 := { stood := { row := tellsMatchRow, standIns := [], harness := (true, "5edeb160c31615941fcdfa8c76b68ed7a349bce5fc673063c62ced11f5f65516"), looks := true }, kinds := [], alts := [], laidByText := true, laidKinds := [.data, .data, .data, .data, .sentinel, .sentinel, .pinned], laidTests := true, laidLooks := .later }
def TellsMatchCardSaid : Prop := Claim7.holds Tryz.pinned (.plain (OpenSpec.ofChange tellsMatchSpec)) tellsMatchCard

/-- THE TIED CARD OF 'outlaw1.JournalsMatch'. -/
def journalsMatchCard : Claim7 := { stood := { row := journalsMatchRow, standIns := [], harness := (true, "5edeb160c31615941fcdfa8c76b68ed7a349bce5fc673063c62ced11f5f65516"), looks := true }, kinds := [], alts := [], laidByText := true, laidKinds := [.data, .data, .data, .data, .sentinel, .sentinel, .pinned], laidTests := true, laidLooks := .later }
def JournalsMatchCardSaid : Prop := Claim7.holds Tryz.pinned (.plain (OpenSpec.ofChange journalsMatchSpec)) journalsMatchCard

/-- THE SECOND FORM's CARD OF 'outlaw1.DisksMatch'. -/
def disksMatchUptoCard : Claim7 := { stood := { row := disksMatchUptoRow, standIns := [], harness := (true, "5edeb160c31615941fcdfa8c76b68ed7a349bce5fc673063c62ced11f5f65516"), looks := true }, kinds := [], alts := [], laidByText := true, laidKinds := [.data, .pinned], laidTests := true, laidLooks := .later }
def DisksMatchUptoCardSaid : Prop := Claim7.holds Tryz.pinned (.plain (OpenSpec.upto disksMatchSpec)) disksMatchUptoCard

/-- THE SECOND FORM's CARD OF 'outlaw1.SumsMatch'. -/
def sumsMatchUptoCard : Claim7 := { stood := { row := sumsMatchUptoRow, standIns := [], harness := (true, "5edeb160c31615941fcdfa8c76b68ed7a349bce5fc673063c62ced11f5f65516"), looks := true }, kinds := [], alts := [], laidByText := true, laidKinds := [.data, .data, .data, .data, .pinned], laidTests := true, laidLooks := .later }
def SumsMatchUptoCardSaid : Prop := Claim7.holds Tryz.pinned (.plain (OpenSpec.upto sumsMatchSpec)) sumsMatchUptoCard

/-- THE SECOND FORM's CARD OF 'outlaw1.LogsJoin'. -/
def logsJoinUptoCard : Claim7 := { stood := { row := logsJoinUptoRow, standIns := [], harness := (true, "5edeb160c31615941fcdfa8c76b68ed7a349bce5fc673063c62ced11f5f65516"), looks := true }, kinds := [], alts := [], laidByText := true, laidKinds := [.data, .data, .data, .data, .sentinel, .sentinel, .pinned], laidTests := true, laidLooks := .later }
def LogsJoinUptoCardSaid : Prop := Claim7.holds Tryz.pinned (.plain (OpenSpec.upto logsJoinSpec)) logsJoinUptoCard

/-- THE SECOND FORM's CARD OF 'outlaw1.RecordsMatch'. -/
def recordsMatchUptoCard : Claim7 := { stood := { row := recordsMatchUptoRow, standIns := [], harness := (true, "5edeb160c31615941fcdfa8c76b68ed7a349bce5fc673063c62ced11f5f65516"), looks := true }, kinds := [], alts := [], laidByText := true, laidKinds := [.data, .data, .data, .data, .sentinel, .sentinel, .pinned], laidTests := true, laidLooks := .later }
def RecordsMatchUptoCardSaid : Prop := Claim7.holds Tryz.pinned (.plain (OpenSpec.upto recordsMatchSpec)) recordsMatchUptoCard

/-- THE SECOND FORM's CARD OF 'outlaw1.LogsGrow'. -/
def logsGrowUptoCard : Claim7 := { stood := { row := logsGrowUptoRow, standIns := [], harness := (true, "5edeb160c31615941fcdfa8c76b68ed7a349bce5fc673063c62ced11f5f65516"), looks := true }, kinds := [], alts := [], laidByText := true, laidKinds := [.data, .data, .data, .data, .sentinel, .sentinel, .pinned], laidTests := true, laidLooks := .later }
def LogsGrowUptoCardSaid : Prop := Claim7.holds Tryz.pinned (.plain (OpenSpec.upto logsGrowSpec)) logsGrowUptoCard

/-- THE SECOND FORM's CARD OF 'outlaw1.LogsCompact'. -/
def logsCompactUptoCard : Claim7 := { stood := { row := logsCompactUptoRow, standIns := [], harness := (true, "5edeb160c31615941fcdfa8c76b68ed7a349bce5fc673063c62ced11f5f65516"), looks := true }, kinds := [], alts := [], laidByText := true, laidKinds := [.data, .data, .data, .data, .sentinel, .sentinel, .pinned], laidTests := true, laidLooks := .later }
def LogsCompactUptoCardSaid : Prop := Claim7.holds Tryz.pinned (.plain (OpenSpec.upto logsCompactSpec)) logsCompactUptoCard

/-- THE SECOND FORM's CARD OF 'outlaw1.ReportsMatch'. -/
def reportsMatchUptoCard : Claim7 := { stood := { row := reportsMatchUptoRow, standIns := [], harness := (true, "5edeb160c31615941fcdfa8c76b68ed7a349bce5fc673063c62ced11f5f65516"), looks := true }, kinds := [], alts := [], laidByText := true, laidKinds := [.data, .data, .data, .data, .sentinel, .sentinel, .pinned], laidTests := true, laidLooks := .later }
def ReportsMatchUptoCardSaid : Prop := Claim7.holds Tryz.pinned (.plain (OpenSpec.upto reportsMatchSpec)) reportsMatchUptoCard

/-- THE SECOND FORM's CARD OF 'outlaw1.LogsOpen'. -/
def logsOpenUptoCard : Claim7 := { stood := { row := logsOpenUptoRow, standIns := [], harness := (true, "5edeb160c31615941fcdfa8c76b68ed7a349bce5fc673063c62ced11f5f65516"), looks := true }, kinds := [], alts := [], laidByText := true, laidKinds := [.data, .data, .data, .data, .sentinel, .sentinel, .pinned], laidTests := true, laidLooks := .later }
def LogsOpenUptoCardSaid : Prop := Claim7.holds Tryz.pinned (.plain (OpenSpec.upto logsOpenSpec)) logsOpenUptoCard

/-- THE SECOND FORM's CARD OF 'outlaw1.LogsPart'. -/
def logsPartUptoCard : Claim7 := { stood := { row := logsPartUptoRow, standIns := [], harness := (true, "5edeb160c31615941fcdfa8c76b68ed7a349bce5fc673063c62ced11f5f65516"), looks := true }, kinds := [], alts := [], laidByText := true, laidKinds := [.data, .data, .data, .data, .sentinel, .sentinel, .pinned], laidTests := true, laidLooks := .later }
def LogsPartUptoCardSaid : Prop := Claim7.holds Tryz.pinned (.plain (OpenSpec.upto logsPartSpec)) logsPartUptoCard

/-- THE SECOND FORM's CARD OF 'outlaw1.TellsMatch'. -/
def tellsMatchUptoCard : Claim7 := { stood := { row := tellsMatchUptoRow, standIns := [], harness := (true, "5edeb160c31615941fcdfa8c76b68ed7a349bce5fc673063c62ced11f5f65516"), looks := true }, kinds := [], alts := [], laidByText := true, laidKinds := [.data, .data, .data, .data, .sentinel, .sentinel, .pinned], laidTests := true, laidLooks := .later }
def TellsMatchUptoCardSaid : Prop := Claim7.holds Tryz.pinned (.plain (OpenSpec.upto tellsMatchSpec)) tellsMatchUptoCard

/-- THE SECOND FORM's CARD OF 'outlaw1.JournalsMatch'. -/
def journalsMatchUptoCard : Claim7 := { stood := { row := journalsMatchUptoRow, standIns := [], harness := (true, "5edeb160c31615941fcdfa8c76b68ed7a349bce5fc673063c62ced11f5f65516"), looks := true }, kinds := [], alts := [], laidByText := true, laidKinds := [.data, .data, .data, .data, .sentinel, .sentinel, .pinned], laidTests := true, laidLooks := .later }
def JournalsMatchUptoCardSaid : Prop := Claim7.holds Tryz.pinned (.plain (OpenSpec.upto journalsMatchSpec)) journalsMatchUptoCard
end Rows
end Go.Proofs.YtaabfmccihcnkaaGreatDoor
