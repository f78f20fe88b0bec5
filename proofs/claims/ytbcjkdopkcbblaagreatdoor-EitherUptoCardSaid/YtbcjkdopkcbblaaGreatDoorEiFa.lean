/- Closed facts on the statement's row. -/
import Derived.Test.YtbcjkdopkcbblaaGreatDoorCards
import Derived.Test.YtbcjkdopkcbblaaGreatDoorTie
import Derived.Test.YtbcjkdopkcbblaaGreatDoorEiLaw
namespace Go.Proofs.YtbcjkdopkcbblaaGreatDoor
open Go.Vc Go.Md
set_option maxHeartbeats 40000000 in
theorem facts : joinedFacts Tryz.pinned.checked.prog 3 Tryz.f3 (Rows.OpenSpec.upto Rows.eitherSpec).bare Rows.eitherUptoRow = true := by
  simp only [joinedFacts, Bool.and_eq_true]
  repeat' apply And.intro
  all_goals as_aux_lemma => kernel_rfl
end Go.Proofs.YtbcjkdopkcbblaaGreatDoor
