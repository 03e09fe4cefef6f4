/- FnExactBackAndForth: the program's BackAndForth and the reference's return the same, for all arguments that the statement speaks of; no further condition. -/
import Derived.Test.YtmjfpigkobeahaaPx34
import Derived.Test.YtmjfpigkobeahaaBackCore
import Derived.Test.YtmjfpigkobeahaaToInts
namespace Go.Proofs.Ytmjfpigkobeahaa.Pure
open Go.RowKit Go.Proofs.Ytmjfpigkobeahaa.P Go.Proofs.Ytmjfpigkobeahaa.Core Go.Proofs.YtmjfpigkobeahaaW.PrintWords Go.Proofs.YtmjfpigkobeahaaW.PrintLast Go.Proofs.YtmjfpigkobeahaaW.PrintMore

theorem FnExactBackAndForth : laws_FnExactBackAndForth.Pure := by
  intro t l te _ _ _ _
  obtain ⟨k, hk⟩ : ∃ k : Nat, 3000010 < k := ⟨3000011, by omega⟩
  refine ⟨k + 1, ?_⟩
  unfold laws_FnExactBackAndForth.f
  by_cases hl : (l.length : Int) > 1048576
  · rw [if_pos hl]
  · obtain ⟨r, h1, h2⟩ := back_both (k + 1) t te l (by omega) (by omega)
    rw [if_neg hl]
    simp only [toI_eq (k + 1) l (by omega) (by omega), toI_eq k l (by omega) (by omega), h1, h2, Option.bind_some, if_true, bne_self_eq_false, laws_FnExactBackAndForth.j0, Bool.false_eq_true, if_false, eqI_self k l (by omega) (by omega)]
end Go.Proofs.Ytmjfpigkobeahaa.Pure
