/-
  DERIVED. GIVEN WITH THE SEED: THE CARDS: each row of YtmnohdgjkcjdeaaGreatDoorRows.lean that lists a variable, with what it lists TIED to the program's text (the seventh form; the later family's looks); each row that meets fmt, with fmt's text TOLD by the authors' own Lean function (tested against real Go, not proved from fmt's source: count such statements apart). THE CARD IS WHAT COUNTS. Prove the row's statement (the work); the ties are given (YtmnohdgjkcjdeaaGreatDoorTie.lean); close each card by the builder's one call (the guide's Derived/Test/ToyasCard.lean, 'card_holds'). Laid BY PROGRAM, IN A SANDBOX (cutbox-door.mjs). By AI agents, Wed Nov 11 2026. No macro, syntax, notation, axiom, sorry.
-/
import Derived.Test.YtmnohdgjkcjdeaaGreatDoorRows
import GoSem.ClaimSeven
namespace Go.Proofs.YtmnohdgjkcjdeaaGreatDoor
namespace Rows

/-- THE TIED CARD OF 'outlaw1.LogsGrow'. -/
def logsGrowCard : Claim7 := { stood := { row := logsGrowRow, standIns := [], harness := (true, "0dd3b8172a8eb476c00e23e050c1bb46db5fc8ce465a5299ecab94ba6739964a"), looks := true }, kinds := [], alts := [], laidByText := true, laidKinds := [.data, .data, .data, .data, .sentinel, .sentinel, .pinned], laidTests := true, laidLooks := .later }
def LogsGrowCardSaid : Prop := Claim7.holds Tryz.pinned (.plain (OpenSpec.ofChange logsGrowSpec)) logsGrowCard

/-- THE TIED CARD OF 'outlaw1.LogsOpen'. -/
def logsOpenCard : Claim7 := { stood := { row := logsOpenRow, standIns := [], harness := (true, "0dd3b8172a8eb476c00e23e050c1bb46db5fc8ce465a5299ecab94ba6739964a"), looks := true }, kinds := [], alts := [], laidByText := true, laidKinds := [.data, .data, .data, .data, .sentinel, .sentinel, .pinned], laidTests := true, laidLooks := .later }
def LogsOpenCardSaid : Prop := Claim7.holds Tryz.pinned (.plain (OpenSpec.ofChange logsOpenSpec)) logsOpenCard

/-- THE TIED CARD OF 'outlaw1.LogsPart'. -/
def logsPartCard : Claim7 := { stood := { row := logsPartRow, standIns := [], harness := (true, "0dd3b8172a8eb476c00e23e050c1bb46db5fc8ce465a5299ecab94ba6739964a"), looks := true }, kinds := [], alts := [], laidByText := true, laidKinds := [.data, .data, .data, .data, .sentinel, .sentinel, .pinned], laidTests := true, laidLooks := .later }
def LogsPartCardSaid : Prop := Claim7.holds Tryz.pinned (.plain (OpenSpec.ofChange logsPartSpec)) logsPartCard

/-- THE TIED CARD OF 'outtop.TopLogsTell'. -/
def topLogsTellCard : Claim7 := { stood := { row := topLogsTellRow, standIns := [], harness := (true, "0dd3b8172a8eb476c00e23e050c1bb46db5fc8ce465a5299ecab94ba6739964a"), looks := true }, kinds := [], alts := [], laidByText := true, laidKinds := [.data, .data, .data, .data, .sentinel, .sentinel, .pinned], laidTests := true, laidLooks := .later }
def TopLogsTellCardSaid : Prop := Claim7.holds Tryz.pinned (.plain (OpenSpec.ofChange topLogsTellSpec)) topLogsTellCard

/-- THE SECOND FORM's CARD OF 'outlaw1.LogsGrow'. -/
def logsGrowUptoCard : Claim7 := { stood := { row := logsGrowUptoRow, standIns := [], harness := (true, "0dd3b8172a8eb476c00e23e050c1bb46db5fc8ce465a5299ecab94ba6739964a"), looks := true }, kinds := [], alts := [], laidByText := true, laidKinds := [.data, .data, .data, .data, .sentinel, .sentinel, .pinned], laidTests := true, laidLooks := .later }
def LogsGrowUptoCardSaid : Prop := Claim7.holds Tryz.pinned (.plain (OpenSpec.upto logsGrowSpec)) logsGrowUptoCard

/-- THE SECOND FORM's CARD OF 'outlaw1.LogsOpen'. -/
def logsOpenUptoCard : Claim7 := { stood := { row := logsOpenUptoRow, standIns := [], harness := (true, "0dd3b8172a8eb476c00e23e050c1bb46db5fc8ce465a5299ecab94ba6739964a"), looks := true }, kinds := [], alts := [], laidByText := true, laidKinds := [.data, .data, .data, .data, .sentinel, .sentinel, .pinned], laidTests := true, laidLooks := .later }
def LogsOpenUptoCardSaid : Prop := Claim7.holds Tryz.pinned (.plain (OpenSpec.upto logsOpenSpec)) logsOpenUptoCard

/-- THE SECOND FORM's CARD OF 'outlaw1.LogsPart'. -/
def logsPartUptoCard : Claim7 := { stood := { row := logsPartUptoRow, standIns := [], harness := (true, "0dd3b8172a8eb476c00e23e050c1bb46db5fc8ce465a5299ecab94ba6739964a"), looks := true }, kinds := [], alts := [], laidByText := true, laidKinds := [.data, .data, .data, .data, .sentinel, .sentinel, .pinned], laidTests := true, laidLooks := .later }
def LogsPartUptoCardSaid : Prop := Claim7.holds Tryz.pinned (.plain (OpenSpec.upto logsPartSpec)) logsPartUptoCard

/-- THE SECOND FORM's CARD OF 'outtop.TopLogsTell'. -/
def topLogsTellUptoCard : Claim7 := { stood := { row := topLogsTellUptoRow, standIns := [], harness := (true, "0dd3b8172a8eb476c00e23e050c1bb46db5fc8ce465a5299ecab94ba6739964a"), looks := true }, kinds := [], alts := [], laidByText := true, laidKinds := [.data, .data, .data, .data, .sentinel, .sentinel, .pinned], laidTests := true, laidLooks := .later }
def TopLogsTellUptoCardSaid : Prop := Claim7.holds Tryz.pinned (.plain (OpenSpec.upto topLogsTellSpec)) topLogsTellUptoCard
end Rows
end Go.Proofs.YtmnohdgjkcjdeaaGreatDoor
