/- Closed facts on the statement's row. -/
import Derived.Test.YtggigadnagoglafGreatDoorCards
import Derived.Test.YtggigadnagoglafGreatDoorTie
import Derived.Test.YtggigadnagoglafGreatDoorTrLaw
namespace Go.Proofs.YtggigadnagoglafGreatDoor
open Go.Vc Go.Md
set_option maxHeartbeats 40000000 in
theorem facts : joinedFacts Tryz.pinned.checked.prog 3 Tryz.f3 (Rows.OpenSpec.upto Rows.topRepairsSpec).bare Rows.topRepairsUptoRow = true := by
  simp only [joinedFacts, Bool.and_eq_true]
  repeat' apply And.intro
  all_goals as_aux_lemma => kernel_rfl
end Go.Proofs.YtggigadnagoglafGreatDoor
