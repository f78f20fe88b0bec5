/-
  DERIVED. GIVEN WITH THE SEED: THE CARDS: each row of YtkekfenkeeiigaaDoorRows.lean that lists a variable, with what it lists TIED to the program's text (the seventh form; the later family's looks); each row that meets fmt, with fmt's text TOLD by the authors' own Lean function (tested against real Go, not proved from fmt's source: count such statements apart). THE CARD IS WHAT COUNTS. Prove the row's statement (the work); the ties are given (YtkekfenkeeiigaaDoorTie.lean); close each card by the builder's one call (the guide's Derived/Test/ToyasCard.lean, 'card_holds'). Laid BY PROGRAM, IN A SANDBOX (cutbox-door.mjs). By AI agents, Wed Nov 11 2026. No macro, syntax, notation, axiom, sorry.
-/
import Derived.Test.YtkekfenkeeiigaaDoorRows
import GoSem.ClaimSeven
namespace Go.Proofs.YtkekfenkeeiigaaDoor
namespace Rows

/-- THE TIED CARD OF 'outlaw1.LinesMatch'. -/
def linesMatchCard : Claim7 := { stood := { row := linesMatchRow, standIns := [], harness := (true, "966e86ebcefa1ffb606ee6cfb49509d67edd0a7ee44047c94ec2f290a9bba6b1"), looks := true }, kinds := [], alts := [], laidByText := true, laidKinds := [.data, .pinned], laidTests := true, laidLooks := .later }
def LinesMatchCardSaid : Prop := Claim7.holds Tryd.pinned (.plain (OpenSpec.ofChange linesMatchSpec)) linesMatchCard

/-- THE TIED CARD OF 'outlaw1.LinesAreBounded'. -/
def linesAreBoundedCard : Claim7 := { stood := { row := linesAreBoundedRow, standIns := [], harness := (true, "966e86ebcefa1ffb606ee6cfb49509d67edd0a7ee44047c94ec2f290a9bba6b1"), looks := true }, kinds := [], alts := [], laidByText := true, laidKinds := [.data, .pinned], laidTests := true, laidLooks := .later }
def LinesAreBoundedCardSaid : Prop := Claim7.holds Tryd.pinned (.plain (OpenSpec.ofChange linesAreBoundedSpec)) linesAreBoundedCard

/-- THE TIED CARD OF 'outlaw1.ChangesAreTold'. -/
def changesAreToldCard : Claim7 := { stood := { row := changesAreToldRow, standIns := [], harness := (true, "966e86ebcefa1ffb606ee6cfb49509d67edd0a7ee44047c94ec2f290a9bba6b1"), looks := true }, kinds := [], alts := [], laidByText := true, laidKinds := [.data, .data, .data, .sentinel, .sentinel], laidTests := true, laidLooks := .later }
def ChangesAreToldCardSaid : Prop := Claim7.holds Tryd.pinned (.plain (OpenSpec.ofChange changesAreToldSpec)) changesAreToldCard

/-- THE TIED CARD OF 'outtop.TopDeltas'. -/
def topDeltasCard : Claim7 := { stood := { row := topDeltasRow, standIns := [], harness := (true, "966e86ebcefa1ffb606ee6cfb49509d67edd0a7ee44047c94ec2f290a9bba6b1"), looks := true }, kinds := [], alts := [], laidByText := true, laidKinds := [.data, .data, .data, .sentinel, .sentinel], laidTests := true, laidLooks := .later }
def TopDeltasCardSaid : Prop := Claim7.holds Tryd.pinned (.plain (OpenSpec.ofChange topDeltasSpec)) topDeltasCard

/-- THE TIED CARD OF 'outlaw1.DeltasMatch'. -/
def deltasMatchCard : Claim7 := { stood := { row := deltasMatchRow, standIns := [], harness := (true, "966e86ebcefa1ffb606ee6cfb49509d67edd0a7ee44047c94ec2f290a9bba6b1"), looks := true }, kinds := [], alts := [], laidByText := true, laidKinds := [.data, .data, .data, .sentinel, .sentinel], laidTests := true, laidLooks := .later }
def DeltasMatchCardSaid : Prop := Claim7.holds Tryd.pinned (.plain (OpenSpec.ofChange deltasMatchSpec)) deltasMatchCard

/-- THE TIED CARD OF 'outlaw1.DeltasPrint'. -/
def deltasPrintCard : Claim7 := { stood := { row := deltasPrintRow, standIns := [], harness := (true, "966e86ebcefa1ffb606ee6cfb49509d67edd0a7ee44047c94ec2f290a9bba6b1"), looks := true }, kinds := [], alts := [], laidByText := true, laidKinds := [.data, .data, .data, .sentinel, .sentinel], laidTests := true, laidLooks := .later }
def DeltasPrintCardSaid : Prop := Claim7.holds Tryd.pinned (.plain (OpenSpec.ofChange deltasPrintSpec)) deltasPrintCard

/-- THE SECOND FORM's CARD OF 'outlaw1.LinesMatch'. -/
def linesMatchUptoCard : Claim7 := { stood := { row := linesMatchUptoRow, standIns := [], harness := (true, "966e86ebcefa1ffb606ee6cfb49509d67edd0a7ee44047c94ec2f290a9bba6b1"), looks := true }, kinds := [], alts := [], laidByText := true, laidKinds := [.data, .pinned], laidTests := true, laidLooks := .later }
def LinesMatchUptoCardSaid : Prop := Claim7.holds Tryd.pinned (.plain (OpenSpec.upto linesMatchSpec)) linesMatchUptoCard

/-- THE SECOND FORM's CARD OF 'outlaw1.LinesAreBounded'. -/
def linesAreBoundedUptoCard : Claim7 := { stood := { row := linesAreBoundedUptoRow, standIns := [], harness := (true, "966e86ebcefa1ffb606ee6cfb49509d67edd0a7ee44047c94ec2f290a9bba6b1"), looks := true }, kinds := [], alts := [], laidByText := true, laidKinds := [.data, .pinned], laidTests := true, laidLooks := .later }
def LinesAreBoundedUptoCardSaid : Prop := Claim7.holds Tryd.pinned (.plain (OpenSpec.upto linesAreBoundedSpec)) linesAreBoundedUptoCard

/-- THE SECOND FORM's CARD OF 'outlaw1.ChangesAreTold'. -/
def changesAreToldUptoCard : Claim7 := { stood := { row := changesAreToldUptoRow, standIns := [], harness := (true, "966e86ebcefa1ffb606ee6cfb49509d67edd0a7ee44047c94ec2f290a9bba6b1"), looks := true }, kinds := [], alts := [], laidByText := true, laidKinds := [.data, .data, .data, .sentinel, .sentinel], laidTests := true, laidLooks := .later }
def ChangesAreToldUptoCardSaid : Prop := Claim7.holds Tryd.pinned (.plain (OpenSpec.upto changesAreToldSpec)) changesAreToldUptoCard

/-- THE SECOND FORM's CARD OF 'outtop.TopDeltas'. -/
def topDeltasUptoCard : Claim7 := { stood := { row := topDeltasUptoRow, standIns := [], harness := (true, "966e86ebcefa1ffb606ee6cfb49509d67edd0a7ee44047c94ec2f290a9bba6b1"), looks := true }, kinds := [], alts := [], laidByText := true, laidKinds := [.data, .data, .data, .sentinel, .sentinel], laidTests := true, laidLooks := .later }
def TopDeltasUptoCardSaid : Prop := Claim7.holds Tryd.pinned (.plain (OpenSpec.upto topDeltasSpec)) topDeltasUptoCard

/-- THE SECOND FORM's CARD OF 'outlaw1.DeltasMatch'. -/
def deltasMatchUptoCard : Claim7 := { stood := { row := deltasMatchUptoRow, standIns := [], harness := (true, "966e86ebcefa1ffb606ee6cfb49509d67edd0a7ee44047c94ec2f290a9bba6b1"), looks := true }, kinds := [], alts := [], laidByText := true, laidKinds := [.data, .data, .data, .sentinel, .sentinel], laidTests := true, laidLooks := .later }
def DeltasMatchUptoCardSaid : Prop := Claim7.holds Tryd.pinned (.plain (OpenSpec.upto deltasMatchSpec)) deltasMatchUptoCard

/-- THE SECOND FORM's CARD OF 'outlaw1.DeltasPrint'. -/
def deltasPrintUptoCard : Claim7 := { stood := { row := deltasPrintUptoRow, standIns := [], harness := (true, "966e86ebcefa1ffb606ee6cfb49509d67edd0a7ee44047c94ec2f290a9bba6b1"), looks := true }, kinds := [], alts := [], laidByText := true, laidKinds := [.data, .data, .data, .sentinel, .sentinel], laidTests := true, laidLooks := .later }
def DeltasPrintUptoCardSaid : Prop := Claim7.holds Tryd.pinned (.plain (OpenSpec.upto deltasPrintSpec)) deltasPrintUptoCard
end Rows
end Go.Proofs.YtkekfenkeeiigaaDoor
