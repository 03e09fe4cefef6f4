/- FnExactFirstOff: the program's FirstOff and the reference's return the same, for all arguments that the statement speaks of; no further condition. -/
import Derived.Test.YtdkkmoigampfoaaRatioFirst
import Derived.Test.YtdkkmoigampfoaaPx18
namespace Go.Proofs.Ytdkkmoigampfoaa.Pure
open Go.RowKit Go.Proofs.Ytdkkmoigampfoaa.P Go.Proofs.Ytdkkmoigampfoaa.Core Go.Proofs.YtdkkmoigampfoaaW.PrintWords Go.Proofs.YtdkkmoigampfoaaW.PrintLast Go.Proofs.YtdkkmoigampfoaaW.PrintMore

theorem FnExactFirstOff : laws_FnExactFirstOff.Pure := by
  intro l0 a1_0 a1_1 a2 hm0 hs0 _ _ _
  obtain ⟨k, hk⟩ : ∃ k : Nat, 1000000010 < k := ⟨1000000011, by omega⟩
  refine ⟨k + 1, ?_⟩
  unfold laws_FnExactFirstOff.f
  rw [szTrain_eq l0 _ (by omega) hm0]
  simp only [Option.bind_some]
  by_cases h0 : (1048576 : Int) < l0.length
  · rw [if_pos h0, if_pos (by omega)]
  · have c0 := cv_length l0
    obtain ⟨r, hr1, hr2⟩ := first_both k (cv l0) a1_0 a1_1 a2 (by omega) (shorts_cv hs0) hk
    rw [if_neg h0, if_neg (by omega), toTrain_eq (k + 1) l0 (by omega) (by omega)]
    simp only [Option.bind_some, laws_toRatio.f, hr1, hr2, bne_self_eq_false, laws_FnExactFirstOff.j0, toTrain_eq k l0 (by omega) (by omega), eqTrain_self k (cv l0) (by omega) (by omega)]
    simp
end Go.Proofs.Ytdkkmoigampfoaa.Pure
