/- FnExactSameLog: the program's SameLog and the reference's return the same, for all arguments that the statement speaks of; no further condition. -/
import Derived.Test.YtmjfpigkobeahaaLogSame
import Derived.Test.YtmjfpigkobeahaaPx23
namespace Go.Proofs.Ytmjfpigkobeahaa.Pure
open Go.RowKit Go.Proofs.Ytmjfpigkobeahaa.P Go.Proofs.Ytmjfpigkobeahaa.Core Go.Proofs.YtmjfpigkobeahaaW.PrintWords Go.Proofs.YtmjfpigkobeahaaW.PrintLast Go.Proofs.YtmjfpigkobeahaaW.PrintMore

theorem FnExactSameLog : laws_FnExactSameLog.Pure := by
  intro l0 l1 hm0 _ hm1 _
  refine ⟨1048577, ?_⟩
  unfold laws_FnExactSameLog.f
  rw [szReadingS_eq l0 _ (by omega) hm0]
  simp only [Option.bind_some]
  by_cases h0 : (1048576 : Int) < l0.length
  · rw [if_pos h0, if_pos (by omega)]
  · rw [if_neg h0, if_neg (by omega), szReadingS_eq l1 _ (by omega) hm1]
    simp only [Option.bind_some]
    by_cases h1 : (1048576 : Int) - l0.length < l1.length
    · rw [if_pos h1, if_pos (by omega)]
    · have c0 := cv_length l0
      have c1 := cv_length l1
      obtain ⟨r, hr1, hr2⟩ := same_both 1048577 (cv l0) (cv l1) (by omega) (by omega)
      rw [if_neg h1, if_neg (by omega), toReadingS_eq 1048577 l0 (by omega) (by omega), toReadingS_eq 1048577 l1 (by omega) (by omega)]
      simp only [Option.bind_some, hr1, hr2, eqReadingS_self 1048577 (cv l0) (by omega) (by omega), eqReadingS_self 1048577 (cv l1) (by omega) (by omega), bne_self_eq_false]
      simp
end Go.Proofs.Ytmjfpigkobeahaa.Pure
