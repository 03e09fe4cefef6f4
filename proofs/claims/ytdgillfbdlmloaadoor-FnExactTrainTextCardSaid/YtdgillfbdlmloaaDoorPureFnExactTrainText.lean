/- FnExactTrainText: the program's TrainText and the reference's return the same, for all arguments that the statement speaks of; no further condition. -/
import Derived.Test.YtdgillfbdlmloaaDoorPx13
import Derived.Test.YtdgillfbdlmloaaDoorTextTrain
namespace Go.Proofs.YtdgillfbdlmloaaDoor.Pure
open Go.RowKit Go.Proofs.YtdgillfbdlmloaaDoor.P Go.Proofs.YtdgillfbdlmloaaDoor.Core Go.Proofs.YtdgillfbdlmloaaDoorW.PrintWords Go.Proofs.YtdgillfbdlmloaaDoorW.PrintLast Go.Proofs.YtdgillfbdlmloaaDoorW.PrintMore

theorem FnExactTrainText : laws_FnExactTrainText.Pure := by
  intro l0 hm0 hs0
  refine ⟨1050000, ?_⟩
  unfold laws_FnExactTrainText.f
  rw [szTrain_eq l0 _ (by omega) hm0]
  simp only [Option.bind_some]
  by_cases h0 : (1048576 : Int) < l0.length
  · rw [if_pos h0, if_pos (by omega)]
  · have c0 := cv_length l0
    obtain ⟨r, h1, h2⟩ := trainText_both 1050000 (cv l0) (by omega) (shorts_cv hs0) (by omega)
    rw [if_neg h0, if_neg (by omega), toTrain_eq 1050000 l0 (by omega) (by omega)]
    simp [h1, h2, eqTrain_self 1050000 (cv l0) (by omega) (by omega)]
end Go.Proofs.YtdgillfbdlmloaaDoor.Pure
