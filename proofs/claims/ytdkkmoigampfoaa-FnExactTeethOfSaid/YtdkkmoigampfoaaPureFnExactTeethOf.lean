/- FnExactTeethOf: the program's TeethOf and the reference's return the same, for all arguments that the statement speaks of; no further condition. -/
import Derived.Test.YtdkkmoigampfoaaTrainOk
import Derived.Test.YtdkkmoigampfoaaPx11
namespace Go.Proofs.Ytdkkmoigampfoaa.Pure
open Go.RowKit Go.Proofs.Ytdkkmoigampfoaa.P Go.Proofs.Ytdkkmoigampfoaa.Core Go.Proofs.YtdkkmoigampfoaaW.PrintWords Go.Proofs.YtdkkmoigampfoaaW.PrintLast Go.Proofs.YtdkkmoigampfoaaW.PrintMore

theorem FnExactTeethOf : laws_FnExactTeethOf.Pure := by
  intro l0 hm0 hs0
  refine ⟨1048578, ?_⟩
  unfold laws_FnExactTeethOf.f
  rw [szTrain_eq l0 _ (by omega) hm0]
  simp only [Option.bind_some]
  by_cases h0 : (1048576 : Int) < l0.length
  · rw [if_pos h0, if_pos (by omega)]
  · have c0 := cv_length l0
    obtain ⟨r, hr1, hr2⟩ := teeth_both 1048578 (cv l0) (by omega) (shorts_cv hs0) (by omega)
    rw [if_neg h0, if_neg (by omega), toTrain_eq 1048578 l0 (by omega) (by omega)]
    simp only [Option.bind_some, hr1, hr2, bne_self_eq_false, laws_FnExactTeethOf.j0, toTrain_eq 1048577 l0 (by omega) (by omega), eqTrain_self 1048577 (cv l0) (by omega) (by omega)]
    simp
end Go.Proofs.Ytdkkmoigampfoaa.Pure
