/- FnExactBackTrain: the program's BackTrain and the reference's return the same, for all arguments that the statement speaks of; no further condition. -/
import Derived.Test.YtdkkmoigampfoaaMarkT
import Derived.Test.YtdkkmoigampfoaaPx27
namespace Go.Proofs.Ytdkkmoigampfoaa.Pure
open Go.RowKit Go.Proofs.Ytdkkmoigampfoaa.P Go.Proofs.Ytdkkmoigampfoaa.Core Go.Proofs.YtdkkmoigampfoaaW.PrintWords Go.Proofs.YtdkkmoigampfoaaW.PrintLast Go.Proofs.YtdkkmoigampfoaaW.PrintMore

theorem FnExactBackTrain : laws_FnExactBackTrain.Pure := by
  intro l0 hm0 hs0
  refine ⟨1048580, ?_⟩
  unfold laws_FnExactBackTrain.f
  rw [szTrain_eq l0 _ (by omega) hm0]
  simp only [Option.bind_some]
  by_cases h0 : (1048576 : Int) < l0.length
  · rw [if_pos h0, if_pos (by omega)]
  · have c0 := cv_length l0
    obtain ⟨⟨r, c⟩, hr, hr1, hr2⟩ := back_both 1048580 (cv l0) (by omega) (shorts_cv hs0) (by omega)
    have hr' : r.length ≤ 4 := hr
    obtain ⟨l1, m1, _⟩ := markT 1048579 (cv l0) (by omega) (by omega)
    obtain ⟨l2, n1, n2⟩ := markT 1048578 r (by omega) (by omega)
    rw [if_neg h0, if_neg (by omega), toTrain_eq 1048580 l0 (by omega) (by omega)]
    simp only [Option.bind_some, hr1, hr2, eqTrain_self 1048580 r (by omega) (by omega), if_true, bne_self_eq_false, laws_FnExactBackTrain.j0, Bool.false_eq_true, if_false, toTrain_eq 1048579 l0 (by omega) (by omega), eqTrain_self 1048579 (cv l0) (by omega) (by omega), m1]
    rw [if_neg (by omega)]
    simp only [eqTrain_self 1048579 r (by omega) (by omega), Option.bind_some, if_true, laws_FnExactBackTrain.j1, Bool.false_eq_true, if_false, n1, n2 1048578 (by omega)]
    rw [if_neg (by omega)]
    simp only [toTrain_eq 1048578 l0 (by omega) (by omega), hr2, Option.bind_some, eqTrain_self 1048578 r (by omega) (by omega), if_true, laws_FnExactBackTrain.j2, bne_self_eq_false, Bool.false_eq_true, if_false, n2 1048577 (by omega)]
    rw [if_neg (by omega)]
end Go.Proofs.Ytdkkmoigampfoaa.Pure
