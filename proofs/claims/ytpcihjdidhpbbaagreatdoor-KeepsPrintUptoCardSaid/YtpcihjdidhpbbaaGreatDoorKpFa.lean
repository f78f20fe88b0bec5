/- Closed facts on the statement's row. -/
import Derived.Test.YtpcihjdidhpbbaaGreatDoorCards
import Derived.Test.YtpcihjdidhpbbaaGreatDoorTie
import Derived.Test.YtpcihjdidhpbbaaGreatDoorKpLaw
namespace Go.Proofs.YtpcihjdidhpbbaaGreatDoor
open Go.Vc Go.Md
set_option maxHeartbeats 40000000 in
theorem facts : joinedFacts Tryz.pinned.checked.prog 3 Tryz.f3 (Rows.OpenSpec.upto Rows.keepsPrintSpec).bare Rows.keepsPrintUptoRow = true := by
  simp only [joinedFacts, Bool.and_eq_true]
  repeat' apply And.intro
  all_goals as_aux_lemma => kernel_rfl
end Go.Proofs.YtpcihjdidhpbbaaGreatDoor
