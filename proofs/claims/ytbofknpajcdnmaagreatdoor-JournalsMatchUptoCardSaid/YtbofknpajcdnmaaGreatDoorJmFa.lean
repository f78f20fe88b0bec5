/- Closed facts on the statement's row. -/
import Derived.Test.YtbofknpajcdnmaaGreatDoorCards
import Derived.Test.YtbofknpajcdnmaaGreatDoorTie
import Derived.Test.YtbofknpajcdnmaaGreatDoorJmLaw
namespace Go.Proofs.YtbofknpajcdnmaaGreatDoor
open Go.Vc Go.Md
set_option maxHeartbeats 40000000 in
theorem facts : joinedFacts Tryz.pinned.checked.prog 5 Tryz.f5 (Rows.OpenSpec.upto Rows.journalsMatchSpec).bare Rows.journalsMatchUptoRow = true := by
  simp only [joinedFacts, Bool.and_eq_true]
  repeat' apply And.intro
  all_goals as_aux_lemma => kernel_rfl
end Go.Proofs.YtbofknpajcdnmaaGreatDoor
