/- Closed facts on the statement's row. -/
import Derived.Test.YtaabfmccihcnkaaGreatDoorCards
import Derived.Test.YtaabfmccihcnkaaGreatDoorTie
import Derived.Test.YtaabfmccihcnkaaGreatDoorSuLaw
namespace Go.Proofs.YtaabfmccihcnkaaGreatDoor
open Go.Vc Go.Md
set_option maxHeartbeats 40000000 in
theorem facts : joinedFacts Tryz.pinned.checked.prog 4 Tryz.f4 (Rows.OpenSpec.upto Rows.sumsMatchSpec).bare Rows.sumsMatchUptoRow = true := by
  simp only [joinedFacts, Bool.and_eq_true]
  repeat' apply And.intro
  all_goals as_aux_lemma => kernel_rfl
end Go.Proofs.YtaabfmccihcnkaaGreatDoor
