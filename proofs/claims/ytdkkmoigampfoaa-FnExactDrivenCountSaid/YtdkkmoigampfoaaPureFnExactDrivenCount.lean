/- FnExactDrivenCount: the program's DrivenCount and the reference's return the same, for all arguments that the statement speaks of; no further condition. -/
import Derived.Test.YtdkkmoigampfoaaRatioTurns
import Derived.Test.YtdkkmoigampfoaaPx14
namespace Go.Proofs.Ytdkkmoigampfoaa.Pure
open Go.RowKit Go.Proofs.Ytdkkmoigampfoaa.P Go.Proofs.Ytdkkmoigampfoaa.Core Go.Proofs.YtdkkmoigampfoaaW.PrintWords Go.Proofs.YtdkkmoigampfoaaW.PrintLast Go.Proofs.YtdkkmoigampfoaaW.PrintMore

theorem FnExactDrivenCount : laws_FnExactDrivenCount.Pure := by
  intro l0 a1 hm0 hs0 _
  obtain ⟨k, hk⟩ : ∃ k : Nat, 1000000010 < k := ⟨1000000011, by omega⟩
  refine ⟨k + 1, ?_⟩
  unfold laws_FnExactDrivenCount.f
  rw [szTrain_eq l0 _ (by omega) hm0]
  simp only [Option.bind_some]
  by_cases h0 : (1048576 : Int) < l0.length
  · rw [if_pos h0, if_pos (by omega)]
  · have c0 := cv_length l0
    obtain ⟨r, hr1, hr2⟩ := driven_both (k + 1) (cv l0) a1 (by omega) (shorts_cv hs0) (by omega)
    rw [if_neg h0, if_neg (by omega), toTrain_eq (k + 1) l0 (by omega) (by omega)]
    simp only [Option.bind_some, hr1, hr2, bne_self_eq_false, laws_FnExactDrivenCount.j0, toTrain_eq k l0 (by omega) (by omega), eqTrain_self k (cv l0) (by omega) (by omega)]
    simp
end Go.Proofs.Ytdkkmoigampfoaa.Pure
