/- Closed facts on the statement's row. -/
import Derived.Test.YtbofknpajcdnmaaGreatDoorCards
import Derived.Test.YtbofknpajcdnmaaGreatDoorTie
import Derived.Test.YtbofknpajcdnmaaGreatDoorLkLaw
namespace Go.Proofs.YtbofknpajcdnmaaGreatDoor
open Go.Vc Go.Md
set_option maxHeartbeats 40000000 in
theorem facts : joinedFacts Tryz.pinned.checked.prog 6 Tryz.f6 (Rows.OpenSpec.upto Rows.looksMatchSpec).bare Rows.looksMatchUptoRow = true := by
  simp only [joinedFacts, Bool.and_eq_true]
  repeat' apply And.intro
  all_goals as_aux_lemma => kernel_rfl
end Go.Proofs.YtbofknpajcdnmaaGreatDoor
