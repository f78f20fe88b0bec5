/- The statement as it is said, ahead of its card. -/
import Derived.Test.YtpcihjdidhpbbaaGreatDoorCards
import Derived.Test.YtpcihjdidhpbbaaGreatDoorTie
import Derived.Test.YtpcihjdidhpbbaaGreatDoorKpFa
namespace Go.Proofs.YtpcihjdidhpbbaaGreatDoor
open Go.Vc Go.Md
set_option maxHeartbeats 40000000 in
theorem Qu:Rows.KeepsPrintUptoSaid :=
  OpenClaim.holds_of_cond 3 Tryz.f3 rfl rfl rfl rfl rfl rfl rfl ⟨rfl,rfl,rfl,rfl,rfl⟩ rfl rfl rfl rfl rfl (by as_aux_lemma => kernel_rfl) Tryz.func3 facts
    (of_decide_eq_true (by kernel_rfl)) (by unfold Func.isWrapper; first | (rw [if_pos (by decide +kernel)]; kernel_rfl) | (rw [if_neg (by decide +kernel)]; exact ⟨rfl,rfl⟩))
    (fun os started H enc _ F=>by rw [OpenClaim.pre_eq_preRow]; exact Es os started H enc F)
end Go.Proofs.YtpcihjdidhpbbaaGreatDoor
