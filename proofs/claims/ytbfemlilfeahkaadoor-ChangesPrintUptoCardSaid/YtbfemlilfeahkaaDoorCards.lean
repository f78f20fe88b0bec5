/-
  DERIVED. GIVEN WITH THE SEED: THE CARDS: each row of YtbfemlilfeahkaaDoorRows.lean that lists a variable, with what it lists TIED to the program's text (the seventh form; the later family's looks); each row that meets fmt, with fmt's text TOLD by the authors' own Lean function (tested against real Go, not proved from fmt's source: count such statements apart). THE CARD IS WHAT COUNTS. Prove the row's statement (the work); the ties are given (YtbfemlilfeahkaaDoorTie.lean); close each card by the builder's one call (the guide's Derived/Test/ToyasCard.lean, 'card_holds'). Laid BY PROGRAM, IN A SANDBOX (cutbox-door.mjs). By AI agents, Wed Nov 11 2026. No macro, syntax, notation, axiom, sorry.
-/
import Derived.Test.YtbfemlilfeahkaaDoorRows
import GoSem.ClaimSeven
namespace Go.Proofs.YtbfemlilfeahkaaDoor
namespace Rows

/-- THE TIED CARD OF 'outlaw1.MachinesCheck'. -/
def machinesCheckCard : Claim7 := { stood := { row := machinesCheckRow, standIns := [], harness := (true, "a2ae36f7dc8a909ea02f9f109f2f9ed66f608c312493d7866d0f4c318c615f7f"), looks := false }, kinds := [], alts := [], laidByText := true, laidKinds := [.data, .pinned], laidTests := true, laidLooks := .later }
def MachinesCheckCardSaid : Prop := Claim7.holds Tryd.pinned (.plain (OpenSpec.ofChange machinesCheckSpec)) machinesCheckCard

/-- THE TIED CARD OF 'outlaw1.MachinesParse'. -/
def machinesParseCard : Claim7 := { stood := { row := machinesParseRow, standIns := [], harness := (true, "a2ae36f7dc8a909ea02f9f109f2f9ed66f608c312493d7866d0f4c318c615f7f"), looks := false }, kinds := [], alts := [], laidByText := true, laidKinds := [.data, .pinned], laidTests := true, laidLooks := .later }
def MachinesParseCardSaid : Prop := Claim7.holds Tryd.pinned (.plain (OpenSpec.ofChange machinesParseSpec)) machinesParseCard

/-- THE TIED CARD OF 'outlaw1.ChangesPrint'. -/
def changesPrintCard : Claim7 := { stood := { row := changesPrintRow, standIns := [], harness := (true, "a2ae36f7dc8a909ea02f9f109f2f9ed66f608c312493d7866d0f4c318c615f7f"), looks := false }, kinds := [], alts := [], laidByText := true, laidKinds := [.data, .pinned], laidTests := true, laidLooks := .later }
def ChangesPrintCardSaid : Prop := Claim7.holds Tryd.pinned (.plain (OpenSpec.ofChange changesPrintSpec)) changesPrintCard

/-- THE TIED CARD OF 'outlaw1.KeepsCheck'. -/
def keepsCheckCard : Claim7 := { stood := { row := keepsCheckRow, standIns := [], harness := (true, "a2ae36f7dc8a909ea02f9f109f2f9ed66f608c312493d7866d0f4c318c615f7f"), looks := false }, kinds := [], alts := [], laidByText := true, laidKinds := [.data, .data, .data, .data, .pinned], laidTests := true, laidLooks := .later }
def KeepsCheckCardSaid : Prop := Claim7.holds Tryd.pinned (.plain (OpenSpec.ofChange keepsCheckSpec)) keepsCheckCard

/-- THE SECOND FORM's CARD OF 'outlaw1.MachinesCheck'. -/
def machinesCheckUptoCard : Claim7 := { stood := { row := machinesCheckUptoRow, standIns := [], harness := (true, "a2ae36f7dc8a909ea02f9f109f2f9ed66f608c312493d7866d0f4c318c615f7f"), looks := false }, kinds := [], alts := [], laidByText := true, laidKinds := [.data, .pinned], laidTests := true, laidLooks := .later }
def MachinesCheckUptoCardSaid : Prop := Claim7.holds Tryd.pinned (.plain (OpenSpec.upto machinesCheckSpec)) machinesCheckUptoCard

/-- THE SECOND FORM's CARD OF 'outlaw1.MachinesParse'. -/
def machinesParseUptoCard : Claim7 := { stood := { row := machinesParseUptoRow, standIns := [], harness := (true, "a2ae36f7dc8a909ea02f9f109f2f9ed66f608c312493d7866d0f4c318c615f7f"), looks := false }, kinds := [], alts := [], laidByText := true, laidKinds := [.data, .pinned], laidTests := true, laidLooks := .later }
def MachinesParseUptoCardSaid : Prop := Claim7.holds Tryd.pinned (.plain (OpenSpec.upto machinesParseSpec)) machinesParseUptoCard

/-- THE SECOND FORM's CARD OF 'outlaw1.ChangesPrint'. -/
def changesPrintUptoCard : Claim7 := { stood := { row := changesPrintUptoRow, standIns := [], harness := (true, "a2ae36f7dc8a909ea02f9f109f2f9ed66f608c312493d7866d0f4c318c615f7f"), looks := false }, kinds := [], alts := [], laidByText := true, laidKinds := [.data, .pinned], laidTests := true, laidLooks := .later }
def ChangesPrintUptoCardSaid : Prop := Claim7.holds Tryd.pinned (.plain (OpenSpec.upto changesPrintSpec)) changesPrintUptoCard

/-- THE SECOND FORM's CARD OF 'outlaw1.KeepsCheck'. -/
def keepsCheckUptoCard : Claim7 := { stood := { row := keepsCheckUptoRow, standIns := [], harness := (true, "a2ae36f7dc8a909ea02f9f109f2f9ed66f608c312493d7866d0f4c318c615f7f"), looks := false }, kinds := [], alts := [], laidByText := true, laidKinds := [.data, .data, .data, .data, .pinned], laidTests := true, laidLooks := .later }
def KeepsCheckUptoCardSaid : Prop := Claim7.holds Tryd.pinned (.plain (OpenSpec.upto keepsCheckSpec)) keepsCheckUptoCard
end Rows
end Go.Proofs.YtbfemlilfeahkaaDoor
