/-
  DERIVED. GIVEN WITH THE SEED: THE CARDS: each row of YtbofknpajcdnmaaGreatDoorRows.lean that lists a variable, with what it lists TIED to the program's text (the seventh form; the later family's looks); each row that meets fmt, with fmt's text TOLD by the authors' own Lean function (tested against real Go, not proved from fmt's source: count such statements apart). THE CARD IS WHAT COUNTS. Prove the row's statement (the work); the ties are given (YtbofknpajcdnmaaGreatDoorTie.lean); close each card by the builder's one call (the guide's Derived/Test/ToyasCard.lean, 'card_holds'). Laid BY PROGRAM, IN A SANDBOX (cutbox-door.mjs). By AI agents, Wed Nov 11 2026. No macro, syntax, notation, axiom, sorry.
-/
import Derived.Test.YtbofknpajcdnmaaGreatDoorRows
import GoSem.ClaimSeven
namespace Go.Proofs.YtbofknpajcdnmaaGreatDoor
namespace Rows

/-- THE TIED CARD OF 'outlaw1.DisksMatch'. -/
def disksMatchCard : Claim7 := { stood := { row := disksMatchRow, standIns := [], harness := (true, "472ffe6e5e6d4e9836ebe0534caa75639f2450ec77febdb5f8f77d75aebcbd53"), looks := true }, kinds := [], alts := [], laidByText := true, laidKinds := [.data, .pinned], laidTests := true, laidLooks := .later }
def DisksMatchCardSaid : Prop := Claim7.holds Tryz.pinned (.plain (OpenSpec.ofChange disksMatchSpec)) disksMatchCard

/-- THE TIED CARD OF 'outlaw1.StagesCheck'. -/
def stagesCheckCard : Claim7 := { stood := { row := stagesCheckRow, standIns := [], harness := (true, "472ffe6e5e6d4e9836ebe0534caa75639f2450ec77febdb5f8f77d75aebcbd53"), looks := true }, kinds := [], alts := [], laidByText := true, laidKinds := [.data, .data, .data, .data, .sentinel, .sentinel, .pinned], laidTests := true, laidLooks := .later }
def StagesCheckCardSaid : Prop := Claim7.holds Tryz.pinned (.plain (OpenSpec.ofChange stagesCheckSpec)) stagesCheckCard

/-- THE TIED CARD OF 'outlaw1.JournalsMatch'. -/
def journalsMatchCard : Claim7 := { stood := { row := journalsMatchRow, standIns := [], harness := (true, "472ffe6e5e6d4e9836ebe0534caa75639f2450ec77febdb5f8f77d75aebcbd53"), looks := true }, kinds := [], alts := [], laidByText := true, laidKinds := [.data, .data, .data, .data, .sentinel, .sentinel, .pinned], laidTests := true, laidLooks := .later }
def JournalsMatchCardSaid : Prop := Claim7.holds Tryz.pinned (.plain (OpenSpec.ofChange journalsMatchSpec)) journalsMatchCard

/-- THE TIED CARD OF 'outlaw1.LooksMatch'. -/
def looksMatchCard : Claim7 := { stood := { row := looksMatchRow, standIns := [], harness := (true, "472ffe6e5e6d4e9836ebe0534caa75639f2450ec77febdb5f8f77d75aebcbd53"), looks := true }, kinds := [], alts := [], laidByText := true, laidKinds := [.data, .data, .data, .data, .sentinel, .sentinel, .pinned], laidTests := true, laidLooks := .later }
def LooksMatchCardSaid : Prop := Claim7.holds Tryz.pinned (.plain (OpenSpec.ofChange looksMatchSpec)) looksMatchCard

/-- THE TIED CARD OF 'outlaw1.TriesMatch'. -/
def triesMatchCard : Claim7 := { stood := { row := triesMatchRow, standIns := [], harness := (true, "472ffe6e5e6d4e9836ebe0534caa75639f2450ec77febdb5f8f77d75aebcbd53"), looks := true }, kinds := [], alts := [], laidByText := true, laidKinds := [.data, .data, .data, .data, .sentinel, .sentinel, .pinned], laidTests := true, laidLooks := .later }
def TriesMatchCardSaid : Prop := Claim7.holds Tryz.pinned (.plain (OpenSpec.ofChange triesMatchSpec)) triesMatchCard

/-- THE TIED CARD OF 'outlaw1.Either'. -/
def eitherCard : Claim7 := { stood := { row := eitherRow, standIns := [], harness := (true, "472ffe6e5e6d4e9836ebe0534caa75639f2450ec77febdb5f8f77d75aebcbd53"), looks := true }, kinds := [], alts := [], laidByText := true, laidKinds := [.data, .data, .data, .data, .sentinel, .sentinel, .pinned], laidTests := true, laidLooks := .later }
def EitherCardSaid : Prop := Claim7.holds Tryz.pinned (.plain (OpenSpec.ofChange eitherSpec)) eitherCard

/-- THE TIED CARD OF 'outlaw1.DisksRecover'. -/
def disksRecoverCard : Claim7 := { stood := { row := disksRecoverRow, standIns := [], harness := (true, "472ffe6e5e6d4e9836ebe0534caa75639f2450ec77febdb5f8f77d75aebcbd53"), looks := true }, kinds := [], alts := [], laidByText := true, laidKinds := [.data, .data, .data, .data, .sentinel, .sentinel, .pinned], laidTests := true, laidLooks := .later }
def DisksRecoverCardSaid : Prop := Claim7.holds Tryz.pinned (.plain (OpenSpec.ofChange disksRecoverSpec)) disksRecoverCard

/-- THE SECOND FORM's CARD OF 'outlaw1.DisksMatch'. -/
def disksMatchUptoCard : Claim7 := { stood := { row := disksMatchUptoRow, standIns := [], harness := (true, "472ffe6e5e6d4e9836ebe0534caa75639f2450ec77febdb5f8f77d75aebcbd53"), looks := true }, kinds := [], alts := [], laidByText := true, laidKinds := [.data, .pinned], laidTests := true, laidLooks := .later }
def DisksMatchUptoCardSaid : Prop := Claim7.holds Tryz.pinned (.plain (OpenSpec.upto disksMatchSpec)) disksMatchUptoCard

/-- THE SECOND FORM's CARD OF 'outlaw1.StagesCheck'. -/
def stagesCheckUptoCard : Claim7 := { stood := { row := stagesCheckUptoRow, standIns := [], harness := (true, "472ffe6e5e6d4e9836ebe0534caa75639f2450ec77febdb5f8f77d75aebcbd53"), looks := true }, kinds := [], alts := [], laidByText := true, laidKinds := [.data, .data, .data, .data, .sentinel, .sentinel, .pinned], laidTests := true, laidLooks := .later }
def StagesCheckUptoCardSaid : Prop := Claim7.holds Tryz.pinned (.plain (OpenSpec.upto stagesCheckSpec)) stagesCheckUptoCard

/-- THE SECOND FORM's CARD OF 'outlaw1.JournalsMatch'. -/
def journalsMatchUptoCard : Claim7 := { stood := { row := journalsMatchUptoRow, standIns := [], harness := (true, "472ffe6e5e6d4e9836ebe0534caa75639f2450ec77febdb5f8f77d75aebcbd53"), looks := true }, kinds := [], alts := [], laidByText := true, laidKinds := [.data, .data, .data, .data, .sentinel, .sentinel, .pinned], laidTests := true, laidLooks := .later }
def JournalsMatchUptoCardSaid : Prop := Claim7.holds Tryz.pinned (.plain (OpenSpec.upto journalsMatchSpec)) journalsMatchUptoCard

/-- THE SECOND FORM's CARD OF 'outlaw1.LooksMatch'. -/
def looksMatchUptoCard : Claim7 := { stood := { row := looksMatchUptoRow, standIns := [], harness := (true, "472ffe6e5e6d4e9836ebe0534caa75639f2450ec77febdb5f8f77d75aebcbd53"), looks := true }, kinds := [], alts := [], laidByText := true, laidKinds := [.data, .data, .data, .data, .sentinel, .sentinel, .pinned], laidTests := true, laidLooks := .later }
def LooksMatchUptoCardSaid : Prop := Claim7.holds Tryz.pinned (.plain (OpenSpec.upto looksMatchSpec)) looksMatchUptoCard

/-- THE SECOND FORM's CARD OF 'outlaw1.TriesMatch'. -/
def triesMatchUptoCard : Claim7 := { stood := { row := triesMatchUptoRow, standIns := [], harness := (true, "472ffe6e5e6d4e9836ebe0534caa75639f2450ec77febdb5f8f77d75aebcbd53"), looks := true }, kinds := [], alts := [], laidByText := true, laidKinds := [.data, .data, .data, .data, .sentinel, .sentinel, .pinned], laidTests := true, laidLooks := .later }
def TriesMatchUptoCardSaid : Prop := Claim7.holds Tryz.pinned (.plain (OpenSpec.upto triesMatchSpec)) triesMatchUptoCard

/-- THE SECOND FORM's CARD OF 'outlaw1.Either'. -/
def eitherUptoCard : Claim7 := { stood := { row := eitherUptoRow, standIns := [], harness := (true, "472ffe6e5e6d4e9836ebe0534caa75639f2450ec77febdb5f8f77d75aebcbd53"), looks := true }, kinds := [], alts := [], laidByText := true, laidKinds := [.data, .data, .data, .data, .sentinel, .sentinel, .pinned], laidTests := true, laidLooks := .later }
def EitherUptoCardSaid : Prop := Claim7.holds Tryz.pinned (.plain (OpenSpec.upto eitherSpec)) eitherUptoCard

/-- THE SECOND FORM's CARD OF 'outlaw1.DisksRecover'. -/
def disksRecoverUptoCard : Claim7 := { stood := { row := disksRecoverUptoRow, standIns := [], harness := (true, "472ffe6e5e6d4e9836ebe0534caa75639f2450ec77febdb5f8f77d75aebcbd53"), looks := true }, kinds := [], alts := [], laidByText := true, laidKinds := [.data, .data, .data, .data, .sentinel, .sentinel, .pinned], laidTests := true, laidLooks := .later }
def DisksRecoverUptoCardSaid : Prop := Claim7.holds Tryz.pinned (.plain (OpenSpec.upto disksRecoverSpec)) disksRecoverUptoCard
end Rows
end Go.Proofs.YtbofknpajcdnmaaGreatDoor
